import PyProof.Rows.All
import HandS.ForMost
import HandS.Wide
import HandS.Flow
import HandS.Zip
import HandS.Conv
import HandS.SortInts
import HandS.SortRule
import HandS.TupAny
import HandS.TupLe
import HandS.TupMul
import HandS.Deep
import HandS.Style
import HandS.IsInst
import HandS.Defaults
import HandS.Iter
import KE.LtData
import KE.DataMinMax
import KE.SortData
import PyProof.P3Eq
import PyProof.P3In
import KE.KSortTup
import HandS.SortOrd
import KE.KStateDown
import HandS.Head0
import HandS.Head1
import HandS.Head2
import HandS.HeadEnd
import HandS.HeadHook1
import HandS.HeadHook2
import PySem.Challenge.RW_formsalike_k03_whole_factors_and_divisor
import KE.IntBitsLaws
import KE.RegMulBits
set_option Elab.async false
set_option linter.all false
set_option maxRecDepth 100000
set_option maxHeartbeats 4000000
/-! DLa: a small language (E, S) and its meaning over plain data, by weakest preconditions. -/
namespace DL
open PySem PySem.Spec PyProof.Rows L2

abbrev D := PyData

/-- how a slot holds a list that may change: its own, borrowed from the caller, locked while it is walked -/
inductive Md where
  | free | bor | lck
  deriving DecidableEq
inductive Sl where
  | no | val (d : D) | own (m : Md) (ds : List D) | scr (ns : List Int)
abbrev En := List Sl
abbrev QK := Sl → En → Prop

inductive Bop where
  | add | sub | mul | fdiv | mod | pow
  deriving DecidableEq
inductive Cop where
  | eq | ne | lt | le | gt | ge | inn | nin
  deriving DecidableEq
inductive Ty where
  | int | bool | str | tuple | list
  deriving DecidableEq
inductive Bi where
  | len | abs | int | max2 | min2 | max1 | min1 | sum | all | any | list | tuple | sorted | str
  deriving DecidableEq

inductive Tg where
  | n (i : Nat)
  | t (ts : List Tg)

mutual
inductive E where
  | c (d : D)
  | g (x : Str) (d : D)
  | v (i : Nat)
  | bin (o : Bop) (a b : E)
  | neg (a : E)
  | cmp (o : Cop) (a b : E)
  | chain (o o' : Cop) (a b c : E)
  | chain3 (o o' o2 : Cop) (a b c d : E)
  | isc (n : Bool) (a : E) (d : D)
  | and (a b : E)
  | or (a b : E)
  | not (a : E)
  | ite (t a b : E)
  | tup (es : Es)
  | lst (es : Es)
  | ix (a i : E)
  | sl (a : E) (lo hi : Eo)
  | rev (a : E)
  | isi (a : E) (t : Ty)
  | bi1 (b : Bi) (a : E)
  | bi2 (b : Bi) (a a' : E)
  | call (f : Nat) (es : Es)
  | lc (e : E) (g : Tg) (it : It) (t : Eo) (own : List Nat)
inductive Es where
  | nil
  | cons (e : E) (es : Es)
inductive Eo where
  | non
  | som (e : E)
inductive It where
  | e (e : E)
  | rng1 (a : E)
  | rng2 (a b : E)
  | zip (a b : E)
  | enum (a : E)
end

mutual
inductive S where
  | asg (g : Tg) (e : E)
  | par (is : List Nat) (es : Es)
  | set (i : Nat) (k e : E)
  | app (i : Nat) (e : E)
  | ex (e : E)
  | ret (e : E)
  | ret0
  | ite (t : E) (a b : Ss)
  | whl (t : E) (b : Ss)
  | for (g : Tg) (it : It) (b : Ss)
  | pass
  | brk
  | cnt
  | stop
inductive Ss where
  | nil
  | cons (s : S) (r : Ss)
end

/-- what is wanted of a thing that must be there -/
def oP {α : Type} (o : Option α) (Q : α → Prop) : Prop := match o with
  | some x => Q x
  | none => False

/-! ### values -/
def wBin (o : Bop) (x y : D) (Q : Sl → Prop) : Prop := match o, x, y with
  | .add, .int i, .int j => Q (.val (.int (i + j)))
  | .add, .list a, .list b => a.length + b.length ≤ sizeLine ∧ Q (.own .free (a ++ b))
  | .add, .tuple a, .tuple b => a.length + b.length ≤ sizeLine ∧ Q (.val (.tuple (a ++ b)))
  | .add, .str a, .str b => a.length + b.length ≤ sizeLine ∧ Q (.val (.str (a ++ b)))
  | .sub, .int i, .int j => Q (.val (.int (i - j)))
  | .mul, .int i, .int j => IntMulOk i j ∧ Q (.val (.int (i * j)))
  | .mul, .list a, .int k => (-(2 ^ 63) ≤ k ∧ k < 2 ^ 63 ∧ a.length * k.toNat ≤ sizeLine) ∧ Q (.own .free (List.replicate k.toNat a).flatten)
  | .mul, .tuple a, .int k => (a ≠ [] ∧ 2 ≤ k ∧ k ≤ 1000 ∧ a.length ≤ 1000) ∧ Q (.val (.tuple (List.replicate k.toNat a).flatten))
  | .fdiv, .int i, .int j => (j ≠ 0 ∧ j.natAbs.log2 < 9000) ∧ Q (.val (.int (i.fdiv j)))
  | .mod, .int i, .int j => j ≠ 0 ∧ Q (.val (.int (i.fmod j)))
  | .pow, .int i, .int j => CPow i j ∧ Q (.val (.int (i ^ j.toNat)))
  | _, _, _ => False

/-! ### the order of data: ints, tuples by their first unequal items -/
mutual
def ltD : D → D → Option Bool
  | .int i, .int j => some (decide (i < j))
  | .tuple xs, .tuple ys => ltDs xs ys
  | _, _ => none
def ltDs : List D → List D → Option Bool
  | [], [] => some false
  | [], _ :: _ => some true
  | _ :: _, [] => some false
  | x :: xs, y :: ys => if PyData.eqv x y = true then ltDs xs ys else ltD x y
end
mutual
/-- the ints of a datum, in their order -/
def flat : D → List Int
  | .int i => [i]
  | .tuple xs => flats xs
  | _ => []
def flats : List D → List Int
  | [] => []
  | x :: xs => flat x ++ flats xs
end
/-- whether a tuple begins with an int, or with a tuple -/
def begD (b : Bool) : D → Bool
  | .tuple (.int _ :: _) => b
  | .tuple (.tuple _ :: _) => !b
  | _ => false
/-- tuples that may be sorted: any two compare as their ints do, read in order -/
structure Sortable (ds : List D) : Prop where
  lay : ∀ d ∈ ds, d.canLay0 = true ∧ d.depth ≤ 20
  beg : ∃ b, ∀ d ∈ ds, begD b d = true
  cmp : ∀ d ∈ ds, ∀ e ∈ ds, ltD d e = some (HT.lexLt (flat d) (flat e))

def flatD : D → Bool
  | .none => true
  | .bool _ => true
  | .int _ => true
  | .str _ => true
  | _ => false

def wCmp (o : Cop) (x y : D) (Q : Bool → Prop) : Prop := match o with
  | .eq => (SeqAt.shaped x = true ∧ SeqAt.shaped y = true) ∧ Q (PyData.eqv x y)
  | .ne => (SeqAt.shaped x = true ∧ SeqAt.shaped y = true) ∧ Q (!PyData.eqv x y)
  | .lt => (match x, y with
    | .int i, .int j => Q (decide (i < j))
    | .tuple a, .tuple b => (SeqAt.shaped (.tuple a) = true ∧ SeqAt.shaped (.tuple b) = true) ∧ oP (ltD (.tuple a) (.tuple b)) Q
    | _, _ => False)
  | .le => (match x, y with
    | .int i, .int j => Q (decide (i ≤ j))
    | _, _ => False)
  | .gt => (match x, y with
    | .int i, .int j => Q (decide (j < i))
    | _, _ => False)
  | .ge => (match x, y with
    | .int i, .int j => Q (decide (j ≤ i))
    | _, _ => False)
  | .inn => (match y with
    | .list ds => (SeqAt.shaped x = true ∧ SeqAt.shaped (.list ds) = true) ∧ Q (ds.any fun z => PyData.eqv z x)
    | .tuple ds => (flatD x = true ∧ ds.all flatD = true) ∧ Q (ds.any fun z => PyData.eqv z x)
    | _ => False)
  | .nin => (match y with
    | .list ds => (SeqAt.shaped x = true ∧ SeqAt.shaped (.list ds) = true) ∧ Q (!ds.any fun z => PyData.eqv z x)
    | .tuple ds => (flatD x = true ∧ ds.all flatD = true) ∧ Q (!ds.any fun z => PyData.eqv z x)
    | _ => False)

/-- x is d, for None, True, False -/
def wIs (x d : D) (Q : Bool → Prop) : Prop := match d, x with
  | .none, .none => Q true
  | .none, _ => Q false
  | .bool b, .bool c => Q (decide (c = b))
  | _, _ => False

def tru (x : D) (Q : Bool → Prop) : Prop := match x with
  | .none => Q false
  | .bool b => Q b
  | .int i => Q (i != 0)
  | .str s => s.length ≤ sizeLine ∧ Q ((s.length : Int) != 0)
  | .list xs => Q (!xs.isEmpty)
  | .tuple xs => Q (!xs.isEmpty)
  | .dict _ => False

def isTy (x : D) (t : Ty) : Bool := match x, t with
  | .int _, .int => true
  | .bool _, .int => true
  | .bool _, .bool => true
  | .str _, .str => true
  | .tuple _, .tuple => true
  | .list _, .list => true
  | _, _ => false
def noDic : D → Bool
  | .dict _ => false
  | _ => true

/-- the first of the greatest ones, or of the least ones, among alike things -/
def wBest (f : D → List D → D) (ds : List D) (Q : D → Prop) : Prop := match ds with
  | [] => False
  | x :: xs => (PySem.W.AlikeAll (x :: xs) ∧ PyData.canLayAll0 (x :: xs) = true ∧ PyData.depthAll (x :: xs) ≤ 40) ∧ Q (f x xs)
/-- alike things that may be sorted -/
structure Ordered (ds : List D) : Prop where
  al : PySem.W.AllAlike ds
  ok : PySem.W.Sortable ds
  lay : PyData.canLayAll0 ds = true
  dep : ∀ d ∈ ds, d.depth ≤ 40
def sortL (ds : List D) : List D := ds.mergeSort (PySem.W.dataLe false id)
def wBi1 (b : Bi) (x : D) (Q : Sl → Prop) : Prop := match b, x with
  | .len, .list xs => Q (.val (.int xs.length))
  | .len, .tuple xs => Q (.val (.int xs.length))
  | .len, .str s => s.length ≤ sizeLine ∧ Q (.val (.int s.length))
  | .abs, .int i => Q (.val (.int (if i < 0 then -i else i)))
  | .int, .int i => Q (.val (.int i))
  | .int, .bool k => Q (.val (.int (if k then 1 else 0)))
  | .max1, .list ds => (∃ ns : List Int, ds = ns.map PyData.int ∧ 0 < ns.length ∧ ∀ m, m ∈ ns → (∀ y ∈ ns, y ≤ m) → Q (.val (.int m))) ∨ wBest PySem.W.maxD ds fun d => Q (.val d)
  | .max1, .tuple ds => wBest PySem.W.maxD ds fun d => Q (.val d)
  | .min1, .list ds => (∃ ns : List Int, ds = ns.map PyData.int ∧ 0 < ns.length ∧ ∀ m, m ∈ ns → (∀ y ∈ ns, m ≤ y) → Q (.val (.int m))) ∨ wBest PySem.W.minD ds fun d => Q (.val d)
  | .min1, .tuple ds => wBest PySem.W.minD ds fun d => Q (.val d)
  | .sum, .list ds => ∃ ns : List Int, ds = ns.map PyData.int ∧ Q (.val (.int ns.sum))
  | .all, .list ds => ∃ bs : List Bool, ds = bs.map PyData.bool ∧ Q (.val (.bool (bs.all id)))
  | .any, .list ds => ∃ bs : List Bool, ds = bs.map PyData.bool ∧ Q (.val (.bool (bs.any id)))
  | .list, .list ds => Q (.own .free ds)
  | .list, .tuple ds => Q (.own .free ds)
  | .tuple, .list ds => Q (.val (.tuple ds))
  | .tuple, .tuple ds => Q (.val (.tuple ds))
  | .sorted, .list ds => (∃ ns : List Int, ds = ns.map PyData.int ∧ ∀ ns' : List Int, ns'.Perm ns → ns'.Pairwise (· ≤ ·) → Q (.own .free (ns'.map PyData.int))) ∨
    (Sortable ds ∧ ∀ es : List D, es.Perm ds → es.Pairwise (fun d e => HT.lexLt (flat e) (flat d) = false) → Q (.own .free es)) ∨
    (Ordered ds ∧ Q (.own .free (sortL ds)))
  | .sorted, .tuple ds => Sortable ds ∧ ∀ es : List D, es.Perm ds → es.Pairwise (fun d e => HT.lexLt (flat e) (flat d) = false) → Q (.own .free es)
  | .str, .int i => i.natAbs.log2 < 1920 ∧ Q (.val (.str (toString i)))
  | _, _ => False
def wBi2 (b : Bi) (x y : D) (Q : Sl → Prop) : Prop := match b, x, y with
  | .max2, .int i, .int j => Q (.val (.int (if j > i then j else i)))
  | .min2, .int i, .int j => Q (.val (.int (if j < i then j else i)))
  | _, _, _ => False

def wIx (x k : D) (Q : Sl → Prop) : Prop := match x, k with
  | .list xs, .int i => oP (atI xs i) fun d => Q (.val d)
  | .tuple xs, .int i => oP (atI xs i) fun d => Q (.val d)
  | _, _ => False
def cutD (xs : List D) (lo hi : Option Int) : List D := (xs.drop (HT.sIx xs.length 0 lo)).take (HT.sIx xs.length xs.length hi - HT.sIx xs.length 0 lo)
def wSl (x : D) (lo hi : Option Int) (Q : Sl → Prop) : Prop := match x with
  | .list xs => Q (.own .free (cutD xs lo hi))
  | .tuple xs => Q (.val (.tuple (cutD xs lo hi)))
  | _ => False
def wRev (x : D) (Q : Sl → Prop) : Prop := match x with
  | .list xs => Q (.own .free xs.reverse)
  | _ => False

/-! ### operands: a name is looked at when the operation is done -/
inductive Hn where
  | d (d : D)
  | var (i : Nat)
def rd (env : En) : Hn → Option D
  | .d d => some d
  | .var i => match env[i]? with
    | some (.val d) => some d
    | some (.own _ ds) => some (.list ds)
    | _ => none
def intD : D → Option Int
  | .int i => some i
  | _ => none
/-- what a result is as data -/
def toD : Sl → Option D
  | .val d => some d
  | .own _ ds => some (.list ds)
  | _ => none
def opD (w : En → QK → Prop) (env : En) (Q : D → En → Prop) : Prop := w env fun r e1 => oP (toD r) fun d => Q d e1
/-- a slot that holds something -/
def hasSl (env : En) (i : Nat) : Prop := match env[i]? with
  | some .no => False
  | some _ => True
  | none => False
def opO (e : E) (w : En → QK → Prop) (env : En) (Q : Hn → En → Prop) : Prop := match e with
  | .v i => hasSl env i ∧ Q (.var i) env
  | _ => w env fun r e1 => oP (toD r) fun d => Q (.d d) e1

/-! ### targets -/
/-- a slot that may be stored to -/
def freeSl : Option Sl → Prop
  | some .no => True
  | some (.val _) => True
  | some (.own .free _) => True
  | some (.scr _) => True
  | _ => False
mutual
def bindT : Tg → D → En → (En → Prop) → Prop
  | .n i, d, env, Q => freeSl env[i]? ∧ Q (env.set i (.val d))
  | .t ts, .tuple ds, env, Q => bindTs ts ds env Q
  | .t _, _, _, _ => False
def bindTs : List Tg → List D → En → (En → Prop) → Prop
  | [], [], env, Q => Q env
  | t :: ts, d :: ds, env, Q => bindT t d env fun e1 => bindTs ts ds e1 Q
  | _, _, _, _ => False
end

/-! ### loops -/
/-- one way or the other -/
@[irreducible] def brB (k : Bool) (a b : Prop) : Prop := if k = true then a else b
/-- a place at which the walk stops -/
@[irreducible] def stp (p : Prop) : Prop := p
theorem stp_get {p : Prop} (h : stp p) : p := by unfold stp at h; exact h
theorem stp_of {p : Prop} (h : p) : stp p := by unfold stp; exact h
theorem brB_t {a b : Prop} (h : brB true a b) : a := by unfold brB at h; exact h
theorem brB_f {a b : Prop} (h : brB false a b) : b := by unfold brB at h; exact h
theorem brB_eq (k : Bool) (a b : Prop) : brB k a b = if k = true then a else b := by unfold brB; rfl
structure AK where
  nx : En → Prop
  rt : QK
  bk : En → Prop := fun _ => False
  ct : En → Prop := fun _ => False

def wLoop (t : En → (Bool → En → Prop) → Prop) (b : En → AK → Prop) : Nat → En → AK → Prop
  | 0, _, _ => False
  | n + 1, env, K => t env fun c e1 => brB c (b e1 { nx := fun e2 => wLoop t b n e2 K, ct := fun e2 => wLoop t b n e2 K, bk := K.nx, rt := K.rt }) (K.nx e1)

def wFor (st : En → Prop) (bd : D → En → (En → Prop) → Prop) (b : En → AK → Prop) : List D → En → AK → Prop
  | [], env, K => st env ∧ K.nx env
  | x :: xs, env, K => st env ∧ bd x env fun e1 => b e1 { nx := fun e2 => wFor st bd b xs e2 K, ct := fun e2 => wFor st bd b xs e2 K, bk := fun e2 => st e2 ∧ K.nx e2, rt := fun r e2 => st e2 ∧ K.rt r e2 }

def wipeD (env : En) : List Nat → En
  | [] => env
  | i :: is => (wipeD env is).set i .no
def wComp (st : En → Prop) (bd : D → En → (En → Prop) → Prop) (t : En → (Bool → En → Prop) → Prop) (el : En → (D → En → Prop) → Prop) (own : List Nat) : List D → List D → En → (List D → En → Prop) → Prop
  | [], acc, env, Q => st env ∧ Q acc env
  | x :: xs, acc, env, Q => st env ∧ bd x env fun e1 => t e1 fun c e2 => brB c (el e2 fun d e3 => acc.length < sizeLine ∧ wComp st bd t el own xs (acc ++ [d]) (wipeD e3 own) Q) (wComp st bd t el own xs acc (wipeD e2 own) Q)

/-- what is walked: the items; the slot that is locked meanwhile -/
inductive Wk where
  | items (ds : List D)
  | var (i : Nat) (m : Md) (ds : List D)
def lockW (env : En) : Wk → En
  | .items _ => env
  | .var i _ ds => env.set i (.own .lck ds)
def unlockW (env : En) : Wk → En
  | .items _ => env
  | .var i m ds => env.set i (.own m ds)
def Wk.ds : Wk → List D
  | .items ds => ds
  | .var _ _ ds => ds
def stillW (env : En) : Wk → Prop
  | .items _ => True
  | .var i _ ds => env[i]? = some (.own .lck ds)
def seqD : D → Option (List D)
  | .list ds => some ds
  | .tuple ds => some ds
  | _ => none
def wkOf (env : En) : Hn → Option Wk
  | .d d => (seqD d).map .items
  | .var i => match env[i]? with
    | some (.val d) => (seqD d).map .items
    | some (.own m ds) => some (.var i m ds)
    | _ => none
def rngD (lo : Int) (n : Nat) : List D := (List.range n).map fun (i : Nat) => PyData.int (lo + (i : Nat))
def zipD : List D → List D → List D
  | x :: xs, y :: ys => .tuple [x, y] :: zipD xs ys
  | _, _ => []
def enumD : Nat → List D → List D
  | _, [] => []
  | k, x :: xs => .tuple [.int k, x] :: enumD (k + 1) xs

/-! ### calls -/
structure Fn where
  nl : Nat
  refs : List Bool
  body : Ss
def Fn.np (c : Fn) : Nat := c.refs.length
abbrev Cl := Nat → List Sl → (Sl → List Sl → Prop) → Prop

/-- an argument: a value, or a name that is lent -/
inductive Ar where
  | val (d : Sl)
  | var (i : Nat)
def okSl : Sl → Prop
  | .val _ => True
  | .scr _ => True
  | _ => False
/-- a result handed over as a value -/
def argSl : Sl → Option Sl
  | .val d => some (.val d)
  | .scr ns => some (.scr ns)
  | .own .free ds => some (.val (.list ds))
  | _ => none
/-- the arguments as they are handed over -/
def lend (env : En) : List Ar → Option (List Sl)
  | [] => some []
  | .val s :: r => (lend env r).map (s :: ·)
  | .var i :: r => match env[i]? with
    | some (.own .free ds) => (lend env r).map (.own .bor ds :: ·)
    | some (.own .bor ds) => (lend env r).map (.own .bor ds :: ·)
    | _ => none
/-- the lent slots as they come back -/
def back (env : En) : List Ar → List Sl → En
  | .var i :: r, o :: os => back (env.set i (match o, env[i]? with
    | .own _ ds, some (.own m _) => .own m ds
    | _, _ => .no)) r os
  | .val _ :: r, _ :: os => back env r os
  | _, _ => env
def lent : List Ar → List Nat
  | [] => []
  | .val _ :: r => lent r
  | .var i :: r => i :: lent r

/-! ### the meaning of each form, from those of its parts -/
abbrev WE := En → QK → Prop
abbrev WH := En → (Hn → En → Prop) → Prop
abbrev WD := En → (D → En → Prop) → Prop
abbrev WB := En → (Bool → En → Prop) → Prop
def mV (i : Nat) : WE := fun env Q => match env[i]? with
  | some (.val d) => Q (.val d) env
  | some (.own .free ds) => Q (.val (.list ds)) (env.set i (.val (.list ds)))
  | some (.scr ns) => Q (.scr ns) env
  | _ => False
def mBin (o : Bop) (a b : WH) : WE := fun env Q => a env fun h1 e1 => b e1 fun h2 e2 => oP (rd e2 h1) fun x => oP (rd e2 h2) fun y => wBin o x y fun r => Q r e2
def mNeg (a : WD) : WE := fun env Q => a env fun x e1 => oP (intD x) fun i => Q (.val (.int (-i))) e1
def mCmp (o : Cop) (a b : WH) : WB := fun env Q => a env fun h1 e1 => b e1 fun h2 e2 => oP (rd e2 h1) fun x => oP (rd e2 h2) fun y => wCmp o x y fun k => Q k e2
def mChain (o o' : Cop) (a b c : WH) : WB := fun env Q => a env fun h1 e1 => b e1 fun h2 e2 => oP (rd e2 h1) fun x => oP (rd e2 h2) fun y => wCmp o x y fun k =>
  brB k (c e2 fun h3 e3 => oP (rd e3 h2) fun y' => oP (rd e3 h3) fun z => wCmp o' y' z fun k' => Q k' e3) (Q false e2)
def mChain3 (o o' o2 : Cop) (a b c d : WH) : WB := fun env Q => a env fun h1 e1 => b e1 fun h2 e2 => oP (rd e2 h1) fun x => oP (rd e2 h2) fun y => wCmp o x y fun k =>
  brB k (c e2 fun h3 e3 => oP (rd e3 h2) fun y' => oP (rd e3 h3) fun z => wCmp o' y' z fun k' =>
    brB k' (d e3 fun h4 e4 => oP (rd e4 h3) fun z' => oP (rd e4 h4) fun w => wCmp o2 z' w fun k2 => Q k2 e4) (Q false e3)) (Q false e2)
def mIs (n : Bool) (a : WH) (d : D) : WB := fun env Q => a env fun h1 e1 => oP (rd e1 h1) fun x => wIs x d fun k => Q (n != k) e1
def mAnd (a : WD) (b : WE) : WE := fun env Q => a env fun x e1 => tru x fun k => brB k (b e1 Q) (Q (.val x) e1)
def mOr (a : WD) (b : WE) : WE := fun env Q => a env fun x e1 => tru x fun k => brB k (Q (.val x) e1) (b e1 Q)
def mNot (a : WH) : WE := fun env Q => a env fun h1 e1 => oP (rd e1 h1) fun x => tru x fun k => Q (.val (.bool (!k))) e1
def mIf (t : WB) (a b : WE) : WE := fun env Q => t env fun k e1 => brB k (a e1 Q) (b e1 Q)
def mTup (es : En → (List D → En → Prop) → Prop) : WE := fun env Q => es env fun ds e1 => ds.length ≤ sizeLine ∧ Q (.val (.tuple ds)) e1
def mLst (es : En → (List D → En → Prop) → Prop) : WE := fun env Q => es env fun ds e1 => ds.length ≤ sizeLine ∧ Q (.own .free ds) e1
def mIx (a : WH) (i : WD) : WE := fun env Q => a env fun h1 e1 => i e1 fun k e2 => oP (rd e2 h1) fun x => stp (wIx x k fun r => Q r e2)
def mSl (a : WH) (lo hi : En → (Option Int → En → Prop) → Prop) : WE := fun env Q => a env fun h1 e1 => lo e1 fun l e2 => hi e2 fun u e3 => oP (rd e3 h1) fun x => wSl x l u fun r => Q r e3
def mRev (a : WH) : WE := fun env Q => a env fun h1 e1 => oP (rd e1 h1) fun x => wRev x fun r => Q r e1
def mIsi (a : WH) (t : Ty) : WB := fun env Q => a env fun h1 e1 => oP (rd e1 h1) fun x => noDic x = true ∧ Q (isTy x t) e1
def scrAt (env : En) : Hn → Option (List Int)
  | .var i => match env[i]? with
    | some (.scr ns) => some ns
    | _ => none
  | _ => none
def mBi1 (b : Bi) (a : WH) : WE := fun env Q => a env fun h1 e1 => match b, scrAt e1 h1 with
  | .list, some ns => Q (.own .free (ns.map PyData.int)) e1
  | _, _ => oP (rd e1 h1) fun x => wBi1 b x fun r => Q r e1
def mBi2 (b : Bi) (a a' : WH) : WE := fun env Q => a env fun h1 e1 => a' e1 fun h2 e2 => oP (rd e2 h1) fun x => oP (rd e2 h2) fun y => wBi2 b x y fun r => Q r e2
def mCall (cl : Cl) (f : Nat) (as : En → (List Ar → En → Prop) → Prop) : WE := fun env Q => as env fun as e1 => (lent as).Nodup ∧ oP (lend e1 as) fun args => stp (cl f args fun r outs => Q r (back e1 as outs))
/-- the block's own names as they were -/
def unwipe (e1 : En) : List Nat → En → En
  | [], e => e
  | i :: is, e => unwipe e1 is (match e1[i]? with | some s => e.set i s | none => e)
def plainSl : Option Sl → Prop
  | some .no => True
  | some (.val _) => True
  | some (.scr _) => True
  | _ => False
def mLc (el : WD) (g : Tg) (it : En → (Wk → En → Prop) → Prop) (t : WB) (own : List Nat) : WE := fun env Q => it env fun wk e1 => (∀ i ∈ own, plainSl e1[i]?) ∧
  stp (wComp (fun e => stillW e wk) (bindT g) t el own wk.ds [] (wipeD (lockW e1 wk) own) fun acc e2 => Q (.own .free acc) (unlockW (unwipe e1 own e2) wk))
/-- a truth as a value; a value's truth -/
def vB (w : WB) : WE := fun env Q => w env fun k e1 => Q (.val (.bool k)) e1
def bV (w : WE) : WB := fun env Q => w env fun r e1 => oP (toD r) fun d => tru d fun k => Q k e1

section
variable (cl : Cl) (refs : Nat → List Bool)
mutual
def wE : E → WE
  | .c d => fun env Q => Q (.val d) env
  | .g _ d => fun env Q => Q (.val d) env
  | .v i => mV i
  | .bin o a b => mBin o (opO a (wE a)) (opO b (wE b))
  | .neg a => mNeg (opD (wE a))
  | .cmp o a b => vB (mCmp o (opO a (wE a)) (opO b (wE b)))
  | .chain o o' a b c => vB (mChain o o' (opO a (wE a)) (opO b (wE b)) (opO c (wE c)))
  | .chain3 o o' o2 a b c d => vB (mChain3 o o' o2 (opO a (wE a)) (opO b (wE b)) (opO c (wE c)) (opO d (wE d)))
  | .isc n a d => vB (mIs n (opO a (wE a)) d)
  | .and a b => mAnd (opD (wE a)) (wE b)
  | .or a b => mOr (opD (wE a)) (wE b)
  | .not a => mNot (opO a (wE a))
  | .ite t a b => mIf (wT t) (wE a) (wE b)
  | .tup es => mTup (wEs es)
  | .lst es => mLst (wEs es)
  | .ix a i => mIx (opO a (wE a)) (opD (wE i))
  | .sl a lo hi => mSl (opO a (wE a)) (wEo lo) (wEo hi)
  | .rev a => mRev (opO a (wE a))
  | .isi a t => vB (mIsi (opO a (wE a)) t)
  | .bi1 b a => mBi1 b (opO a (wE a))
  | .bi2 b a a' => mBi2 b (opO a (wE a)) (opO a' (wE a'))
  | .call f es => mCall cl f (wAs (refs f) es)
  | .lc e g it t own => mLc (opD (wE e)) g (wIt it) (wTo t) own
def wT : E → WB
  | .and a b => fun env Q => wT a env fun k e1 => brB k (wT b e1 Q) (Q false e1)
  | .or a b => fun env Q => wT a env fun k e1 => brB k (Q true e1) (wT b e1 Q)
  | .not a => fun env Q => wT a env fun k e1 => Q (!k) e1
  | .cmp o a b => mCmp o (opO a (wE a)) (opO b (wE b))
  | .chain o o' a b c => mChain o o' (opO a (wE a)) (opO b (wE b)) (opO c (wE c))
  | .chain3 o o' o2 a b c d => mChain3 o o' o2 (opO a (wE a)) (opO b (wE b)) (opO c (wE c)) (opO d (wE d))
  | .isc n a d => mIs n (opO a (wE a)) d
  | .v i => fun env Q => oP (rd env (.var i)) fun x => tru x fun k => Q k env
  | .isi a t => bV (vB (mIsi (opO a (wE a)) t))
  | .bi1 b a => bV (mBi1 b (opO a (wE a)))
  | .ix a i => bV (mIx (opO a (wE a)) (opD (wE i)))
  | .call f es => bV (mCall cl f (wAs (refs f) es))
  | .bin o a b => bV (mBin o (opO a (wE a)) (opO b (wE b)))
  | _ => fun _ _ => False
def wEs : Es → En → (List D → En → Prop) → Prop
  | .nil => fun env Q => Q [] env
  | .cons e es => fun env Q => opD (wE e) env fun d e1 => wEs es e1 fun ds e2 => Q (d :: ds) e2
def wEo : Eo → En → (Option Int → En → Prop) → Prop
  | .non => fun env Q => Q none env
  | .som e => fun env Q => opD (wE e) env fun d e1 => oP (intD d) fun i => Q (some i) e1
def wTo : Eo → WB
  | .non => fun env Q => Q true env
  | .som e => wT e
def wIt : It → En → (Wk → En → Prop) → Prop
  | .e e => fun env Q => opO e (wE e) env fun h e1 => oP (wkOf e1 h) fun wk => Q wk e1
  | .rng1 a => fun env Q => opD (wE a) env fun d e1 => oP (intD d) fun j => (-(2 ^ 62) ≤ j ∧ j < 2 ^ 62) ∧ Q (.items (rngD 0 j.toNat)) e1
  | .rng2 a b => fun env Q => opD (wE a) env fun d e1 => opD (wE b) e1 fun d' e2 => oP (intD d) fun i => oP (intD d') fun j => (-(2 ^ 62) ≤ i ∧ i < 2 ^ 62 ∧ -(2 ^ 62) ≤ j ∧ j < 2 ^ 62) ∧ Q (.items (rngD i (j - i).toNat)) e2
  | .zip a b => fun env Q => opD (wE a) env fun d e1 => opD (wE b) e1 fun d' e2 => (match d, d' with
    | .list xs, .list ys => Q (.items (zipD xs ys)) e2
    | .tuple xs, .tuple ys => Q (.items (zipD xs ys)) e2
    | _, _ => False)
  | .enum a => fun env Q => opD (wE a) env fun d e1 => (match d with
    | .list xs => Q (.items (enumD 0 xs)) e1
    | _ => False)
def wAs : List Bool → Es → En → (List Ar → En → Prop) → Prop
  | rs, .nil => fun env Q => rs = [] ∧ Q [] env
  | true :: rs, .cons e es => fun env Q => match e with
    | .v i => hasSl env i ∧ wAs rs es env fun as e2 => Q (.var i :: as) e2
    | _ => False
  | false :: rs, .cons e es => fun env Q => wE e env fun r e1 => oP (argSl r) fun s => wAs rs es e1 fun as e2 => Q (.val s :: as) e2
  | [], .cons _ _ => fun _ _ => False
end

/-- the values of a, b = x, y: each kept as it comes -/
def wRs : Es → En → (List Sl → En → Prop) → Prop
  | .nil => fun env Q => Q [] env
  | .cons e es => fun env Q => wE cl refs e env fun r e1 => wRs es e1 fun rs e2 => Q (r :: rs) e2
def setAll : List Nat → List Sl → En → En
  | i :: is, r :: rs, env => setAll is rs (env.set i r)
  | _, _, env => env
def mAsg (g : Tg) (e : WE) : En → AK → Prop := fun env K => e env fun r e1 => match g with
  | .n i => freeSl e1[i]? ∧ K.nx (e1.set i r)
  | g => oP (toD r) fun d => bindT g d e1 K.nx
def mPar (is : List Nat) (es : En → (List Sl → En → Prop) → Prop) : En → AK → Prop := fun env K => es env fun rs e1 => is.length = rs.length ∧ is.Nodup ∧ (∀ i ∈ is, freeSl e1[i]?) ∧ K.nx (setAll is rs e1)
def mSet (i : Nat) (k e : WD) : En → AK → Prop := fun env K => match env[i]? with
  | some (.own _ _) => e env fun d e1 => k e1 fun kk e2 => oP (intD kk) fun j => (match e2[i]? with
    | some (.own m ds) => m ≠ .lck ∧ oP (ixN ds.length j) fun n => K.nx (e2.set i (.own m (ds.set n d)))
    | _ => False)
  | _ => False
def mApp (i : Nat) (e : WD) : En → AK → Prop := fun env K => match env[i]? with
  | some (.own _ _) => e env fun d e1 => (match e1[i]? with
    | some (.own m ds) => m ≠ .lck ∧ ds.length < sizeLine ∧ K.nx (e1.set i (.own m (ds ++ [d])))
    | _ => False)
  | _ => False
def mRet (e : E) (w : WE) : En → AK → Prop := fun env K => match e with
  | .v i => (match env[i]? with
    | some (.own .free ds) => K.rt (.own .free ds) (env.set i .no)
    | _ => mV i env K.rt)
  | _ => w env K.rt
def mFor (g : Tg) (it : En → (Wk → En → Prop) → Prop) (b : En → AK → Prop) : En → AK → Prop := fun env K => it env fun wk e1 =>
  stp (wFor (fun e => stillW e wk) (bindT g) b wk.ds (lockW e1 wk) { nx := fun e2 => K.nx (unlockW e2 wk), rt := fun r e2 => K.rt r (unlockW e2 wk) })
mutual
def wS : S → En → AK → Prop
  | .asg g e => mAsg g (wE cl refs e)
  | .par is es => mPar is (wRs cl refs es)
  | .set i k e => mSet i (opD (wE cl refs k)) (opD (wE cl refs e))
  | .app i e => mApp i (opD (wE cl refs e))
  | .ex e => fun env K => wE cl refs e env fun _ e1 => K.nx e1
  | .ret e => mRet e (wE cl refs e)
  | .ret0 => fun env K => K.rt (.val .none) env
  | .ite t a b => fun env K => wT cl refs t env fun k e1 => brB k (wSs a e1 K) (wSs b e1 K)
  | .whl t b => fun env K => stp (∃ n, wLoop (wT cl refs t) (wSs b) n env K)
  | .for g it b => mFor g (wIt cl refs it) (wSs b)
  | .pass => fun env K => K.nx env
  | .brk => fun env K => K.bk env
  | .cnt => fun env K => K.ct env
  | .stop => fun _ _ => False
def wSs : Ss → En → AK → Prop
  | .nil => fun env K => K.nx env
  | .cons s r => fun env K => wS s env { K with nx := fun e1 => stp (wSs r e1 K) }
end
end

/-- what comes back of a lent slot -/
def outSl : Bool → Sl → Sl
  | true, .own .bor ds => .own .bor ds
  | _, _ => .no
def outs (refs : List Bool) (env : En) : List Sl := (List.range refs.length).map fun j => match refs[j]?, env[j]? with
  | some b, some s => outSl b s
  | _, _ => .no
/-- the arguments fit: a list lent where one is asked, else a value -/
def fits : List Bool → List Sl → Prop
  | [], [] => True
  | true :: rs, .own .bor _ :: as => fits rs as
  | false :: rs, s :: as => okSl s ∧ fits rs as
  | _, _ => False
/-- a call k frames deep at most -/
def wCall (fns : List Fn) : Nat → Cl
  | 0 => fun _ _ _ => False
  | k + 1 => fun f args Q => oP fns[f]? fun c => fits c.refs args ∧
      wSs (wCall fns k) (fun f => (fns[f]?.map Fn.refs).getD []) c.body (args ++ List.replicate (c.nl - c.np) .no)
        { nx := fun env => Q (.val .none) (outs c.refs env), rt := fun r env => Q r (outs c.refs env) }
end DL

set_option Elab.async false
set_option linter.all false
set_option maxRecDepth 100000
set_option maxHeartbeats 4000000
/-! DLv: tuples of data in order: < and sorted, at the model's level. -/
namespace DL
open PySem PySem.Spec PyProof.Rows
open PySem.SeqAt
def LtAt (A : Around) (s : Shared) (x y : Value) (k : Bool) : Prop := ∀ (prog : Program) (w : World) (E : Value → Shared → Prop) (Q : Value → Shared → Prop), Q (.bool k) s → wpAny (model prog w) A (richCompare .Lt x y) Q E s
def LexV (A : Around) (s : Shared) : List Value → List Value → Bool → Prop
  | [], [], k => k = false
  | [], _ :: _, k => k = true
  | _ :: _, [], k => k = false
  | x :: xs, y :: ys, k => ∃ e, EqAt A s x y e ∧ (e = true → LexV A s xs ys k) ∧ (e = false → LtAt A s x y k)
section
open PySem.AutoSeq1 (wpAny_loadPart')
open PySem.MeetsSeq PySem.MeetsSeq2 PySem.MeetsSeq3
theorem tuple_lt_lex (l b : Addr) (items items2 : Array Value) (n n2 : Nat) (dd dd2 : Option Addr) (sl sl2 : Array (Option Value)) (k : Bool) :
    Meets (Builtin.«tuple.__lt__» ⟨[.ref l, .ref b], []⟩)
      (fun A R s => s.heap.get? l = some { cls := .type "tuple", dict := dd, data := .seq items n, slots := sl } ∧ s.heap.get? b = some { cls := .type "tuple", dict := dd2, data := .seq items2 n2, slots := sl2 } ∧
        LexV A.in1 s items.toList items2.toList k ∧ R (.ok (.ret (.bool k))) s) :=
  .of_wp fun prog w A R s h => by
    obtain ⟨hp, g, d, tk, os⟩ := s; obtain ⟨hl, hb, hx, h⟩ := h
    have f2 := AutoSeq1.sub_tuple_tuple
    have z1 : items.size = items.toList.length := by simp
    have z2 : items2.size = items2.toList.length := by simp
    wp_walk using wpAny_loadPart' hl, wpAny_loadPart' hb, wpAny_forIn_list _ (fun rest b s' => b.1 = none ∧ s' = ⟨hp, g, d, tk, os⟩ ∧ ∃ (vs ws : List Value), rest = vs.zip ws ∧
      LexV A.in1 ⟨hp, g, d, tk, os⟩ vs ws k ∧ vs.length + items2.size = ws.length + items.size) _
    case turn =>
      rintro ⟨y, x⟩ rest b s' ⟨hb', rfl, vs, ws, hz, hlex, hlen⟩
      cases vs with
      | nil => rw [List.zip_nil_left] at hz; cases hz
      | cons v vs =>
        cases ws with
        | nil => rw [List.zip_nil_right] at hz; cases hz
        | cons u ws =>
          rw [List.zip_cons_cons] at hz
          injection hz with hyx hrest
          injection hyx with hy hx
          subst hy hx
          obtain ⟨e, he, h1, h2⟩ := hlex
          refine wpAny_bind (he prog w _ _ ?_)
          cases e with
          | true =>
            wp_walk
            exact ⟨rfl, rfl, _, _, hrest, h1 rfl, by simp only [List.length_cons] at hlen; omega⟩
          | false =>
            have hri := h2 rfl prog w
            wp_walk using hri
            exact ⟨_, rfl, by simpa using h⟩
    case fin =>
      rintro ⟨b1, b2⟩ s' ⟨hb', rfl, vs, ws, hz, hlex, hlen⟩
      simp only at hb'
      subst hb'
      have hv : k = decide (items.size < items2.size) := by
        cases vs with
        | nil =>
          cases ws with
          | nil =>
            simp only [List.length_nil] at hlen
            rw [show k = false from hlex]
            exact (decide_eq_false (by omega)).symm
          | cons u ws =>
            simp only [List.length_nil, List.length_cons] at hlen
            rw [show k = true from hlex]
            exact (decide_eq_true (by omega)).symm
        | cons v vs =>
          cases ws with
          | nil =>
            simp only [List.length_nil, List.length_cons] at hlen
            rw [show k = false from hlex]
            exact (decide_eq_false (by omega)).symm
          | cons u ws =>
            rw [List.zip_cons_cons] at hz
            cases hz
      rw [hv] at h
      wp_walk
      exact ⟨_, rfl, by simpa [Builtin.Tuple.tupleCompareSizes] using h⟩
    case h =>
      exact ⟨rfl, rfl, items.toList, items2.toList, rfl, hx, by simp; omega⟩
end
theorem ltAt_tuples {A : Around} {s : Shared} {l b : Addr} {items items2 : Array Value} {k : Bool} (hl : s.heap.IsTuple l items) (hb : s.heap.IsTuple b items2) (hu : A.units < cLine) (h : LexV A.in1 s items.toList items2.toList k) : LtAt A s (.ref l) (.ref b) k := by
  intro prog w E Q hq
  obtain ⟨⟨cls, dd, data, sl⟩, ho, hc, n, hd⟩ := id hl
  obtain ⟨⟨cls2, dd2, data2, sl2⟩, ho2, hc2, n2, hd2⟩ := id hb
  simp only at hc hd hc2 hd2
  subst hc hd hc2 hd2
  exact richCompare_meets_room (op := .Lt) ⟨_, ho, rfl⟩ ⟨_, ho2, rfl⟩ PySem.F.slot_tuple_lt PySem.F.entry_tuple_lt (PySem.F.args_tuple_lt_2 _ _) (tuple_lt_lex l b items items2 n n2 dd dd2 sl sl2 k)
    ⟨ho, ho2, h, show Value.bool k ≠ Value.notImplemented ∧ Q (.bool k) s from ⟨(fun x => nomatch x), hq⟩⟩ hu
theorem canAll {d : D} {ds : List D} (h : PyData.canLayAll0 (d :: ds) = true) : d.canLay0 = true ∧ PyData.canLayAll0 ds = true := by
  unfold PyData.canLayAll0 at h
  exact ⟨(Bool.and_eq_true _ _ ▸ h).1, (Bool.and_eq_true _ _ ▸ h).2⟩
theorem depAll {d : D} {ds : List D} : d.depth ≤ PyData.depthAll (d :: ds) ∧ PyData.depthAll ds ≤ PyData.depthAll (d :: ds) := by
  have e : PyData.depthAll (d :: ds) = max d.depth (PyData.depthAll ds) := by rw [PyData.depthAll]
  rw [e]
  exact ⟨Nat.le_max_left _ _, Nat.le_max_right _ _⟩
mutual
theorem lt_reads : ∀ (da db : D) (A : Around) (s : Shared) (a b : Value) (as bs : List Addr) (k : Bool), Reads s.heap a da as → Reads s.heap b db bs → da.canLay0 = true → db.canLay0 = true →
    A.units + da.depth + 1 < cLine → ltD da db = some k → LtAt A s a b k
  | .int i, db, A, s, a, b, as, bs, k, ra, rb, ca, cb, hu, h => by
    cases db with
    | int j =>
      cases ra
      cases rb
      unfold ltD at h
      cases h
      exact fun prog w E Q hq => HT.rcLt_int A s _ _ _ _ prog w E Q hq
    | _ => unfold ltD at h; cases h
  | .tuple xs, db, A, s, a, b, as, bs, k, ra, rb, ca, cb, hu, h => by
    cases db with
    | tuple ys =>
      unfold ltD at h
      cases ra with
      | @tuple l o vs n _ as₁ h1 h2 h3 h4 =>
        cases rb with
        | @tuple l' o' vs' n' _ bs₁ k1 k2 k3 k4 =>
          unfold PyData.canLay0 at ca cb
          unfold PyData.depth at hu
          exact ltAt_tuples ⟨_, h1, h2, _, h3⟩ ⟨_, k1, k2, _, k3⟩ (by omega) (lex_reads xs ys A.in1 s _ _ _ _ k h4 k4 ca cb (by show A.units + 1 + PyData.depthAll xs + 1 < cLine; omega) h)
    | _ => unfold ltD at h; cases h
  | .none, _, _, _, _, _, _, _, _, _, _, _, _, _, h => by unfold ltD at h; cases h
  | .bool _, _, _, _, _, _, _, _, _, _, _, _, _, _, h => by unfold ltD at h; cases h
  | .str _, _, _, _, _, _, _, _, _, _, _, _, _, _, h => by unfold ltD at h; cases h
  | .list _, _, _, _, _, _, _, _, _, _, _, _, _, _, h => by unfold ltD at h; cases h
  | .dict _, _, _, _, _, _, _, _, _, _, _, _, _, _, h => by unfold ltD at h; cases h
theorem lex_reads : ∀ (xs ys : List D) (A : Around) (s : Shared) (vs ws : List Value) (as bs : List Addr) (k : Bool), ReadsAll s.heap vs xs as → ReadsAll s.heap ws ys bs → PyData.canLayAll0 xs = true → PyData.canLayAll0 ys = true →
    A.units + PyData.depthAll xs + 1 < cLine → ltDs xs ys = some k → LexV A s vs ws k
  | [], ys, A, s, vs, ws, as, bs, k, ra, rb, ca, cb, hu, h => by
    cases ra
    cases ys with
    | nil => cases rb; unfold ltDs at h; cases h; rfl
    | cons y ys => cases rb; unfold ltDs at h; cases h; rfl
  | x :: xs, ys, A, s, vs, ws, as, bs, k, ra, rb, ca, cb, hu, h => by
    cases ra with
    | cons r1 r2 =>
      cases ys with
      | nil => cases rb; unfold ltDs at h; cases h; rfl
      | cons y ys =>
        cases rb with
        | cons q1 q2 =>
          obtain ⟨c1, c2⟩ := canAll ca
          obtain ⟨c3, c4⟩ := canAll cb
          have d1 := (depAll (d := x) (ds := xs)).1
          have d2 := (depAll (d := x) (ds := xs)).2
          unfold ltDs at h
          refine ⟨_, eqAt_reads x y A s _ _ _ _ r1 q1 c1 c3 (by have := Nat.min_le_left x.depth y.depth; omega), fun e => ?_, fun e => ?_⟩
          · rw [if_pos e] at h
            exact lex_reads xs ys A s _ _ _ _ k r2 q2 c2 c4 (by omega) h
          · rw [if_neg (by rw [e]; decide)] at h
            exact lt_reads x y A s _ _ _ _ k r1 q1 c1 c3 (by omega) h
end
end DL
namespace DL
open PySem PySem.Spec PyProof.Rows L2 PySem.SeqAt
def rLtD (K : PySem.W.Frag) : R2 := fun x y H Q => ∃ d e k, Dp K H x d ∧ Dp K H y e ∧ SeqAt.shaped d = true ∧ SeqAt.shaped e = true ∧ ltD d e = some k ∧ Q (.bl k) H
theorem op_ltD {X : Cx} (hu : X.A.units + 65 < cLine) : OpR X (compareOp .Lt) (rLtD X.K) := by
  intro pins s σ H x y v u Q I rx ry h
  obtain ⟨d, e, k, hd, he, sd, se, hk, q⟩ := h
  obtain ⟨as, r1⟩ := Dp.reads I d x v hd rx
  obtain ⟨bs, r2⟩ := Dp.reads I e y u he ry
  have sd' := sd
  unfold SeqAt.shaped at sd'
  rw [Bool.and_eq_true, decide_eq_true_eq] at sd'
  exact lt_reads d e _ s v u as bs k r1 r2 (canLay_of_shaped sd) (canLay_of_shaped se) (by omega) hk _ _ _ _ ⟨.bl _, H, I, rfl, q⟩
/-! ### sorted -/
theorem lexLt_asym : ∀ (xs ys : List Int), HT.lexLt xs ys = true → HT.lexLt ys xs = false
  | [], [], h => by cases h
  | [], y :: ys, h => rfl
  | x :: xs, [], h => by cases h
  | x :: xs, y :: ys, h => by
    rw [HT.lexLt_cons] at h ⊢
    by_cases e : x = y
    · subst e
      rw [if_pos rfl] at h ⊢
      exact lexLt_asym xs ys h
    · rw [if_neg e] at h
      rw [if_neg (fun q => e q.symm)]
      have := of_decide_eq_true h
      exact decide_eq_false (by omega)
theorem lexLt_tr : ∀ (xs ys zs : List Int), HT.lexLt ys xs = false → HT.lexLt zs ys = false → HT.lexLt zs xs = false
  | [], ys, [], h1, h2 => rfl
  | [], [], z :: zs, h1, h2 => rfl
  | [], y :: ys, z :: zs, h1, h2 => rfl
  | x :: xs, [], zs, h1, h2 => by rw [HT.lexLt_nil_cons] at h1; cases h1
  | x :: xs, y :: ys, [], h1, h2 => by rw [HT.lexLt_nil_cons] at h2; cases h2
  | x :: xs, y :: ys, z :: zs, h1, h2 => by
    rw [HT.lexLt_cons] at h1 h2 ⊢
    by_cases e1 : y = x
    · subst e1
      rw [if_pos rfl] at h1
      by_cases e2 : z = y
      · subst e2
        rw [if_pos rfl] at h2 ⊢
        exact lexLt_tr xs ys zs h1 h2
      · rw [if_neg e2] at h2 ⊢
        exact h2
    · rw [if_neg e1] at h1
      have := of_decide_eq_false h1
      by_cases e2 : z = y
      · subst e2
        rw [if_neg e1]
        exact h1
      · rw [if_neg e2] at h2
        have := of_decide_eq_false h2
        rw [if_neg (by omega)]
        exact decide_eq_false (by omega)
noncomputable def keyV (h : Heap) (v : Value) : List Int := flat (readOf h v)
theorem swo_key (h : Heap) : SrtO.Swo fun v u => HT.lexLt (keyV h v) (keyV h u) := ⟨fun x y => lexLt_asym _ _, fun x y z => lexLt_tr _ _ _⟩
section
variable {prog : Program} {w : World} {A : Around} {s : Shared} {E : Value → Shared → Prop}
open SrtO
theorem katlex_reads (b : Bool) (P : Shared → Prop) (fin : Bool) : ∀ (xs ys : List D) (vs ws : List Value) (as bs : List Addr) (i : Nat) (k : Bool), ReadsAll s.heap vs xs as → ReadsAll s.heap ws ys bs → PyData.canLayAll0 xs = true → PyData.canLayAll0 ys = true →
    A.units + PyData.depthAll xs + 1 < cLine → ltDs xs ys = some k → fin = decide (xs.length < ys.length) → (b = true → i = 0 → ∀ x xs', xs = x :: xs' → ∀ y ys', ys = y :: ys' → (∃ i, x = .int i) ∧ ∃ j, y = .int j) → P s →
    PySem.W.KatLex prog w A b fin (fun r s' => P s' ∧ r = k) (vs.zip ws) i s
  | [], ys, vs, ws, as, bs, i, k, ra, rb, ca, cb, hu, h, hf, hi, hp => by
    cases ra
    rw [List.zip_nil_left]
    refine PySem.W.kat_nil ⟨hp, ?_⟩
    subst hf
    cases ys with
    | nil => unfold ltDs at h; cases h; rfl
    | cons y ys => unfold ltDs at h; cases h; simp
  | x :: xs, [], vs, ws, as, bs, i, k, ra, rb, ca, cb, hu, h, hf, hi, hp => by
    cases rb
    rw [List.zip_nil_right]
    refine PySem.W.kat_nil ⟨hp, ?_⟩
    subst hf
    unfold ltDs at h; cases h; simp
  | x :: xs, y :: ys, vs, ws, as, bs, i, k, ra, rb, ca, cb, hu, h, hf, hi, hp => by
    cases ra with
    | cons r1 r2 =>
      cases rb with
      | cons q1 q2 =>
        obtain ⟨c1, c2⟩ := canAll ca
        obtain ⟨c3, c4⟩ := canAll cb
        have d1 := (depAll (d := x) (ds := xs)).1
        have d2 := (depAll (d := x) (ds := xs)).2
        unfold ltDs at h
        rw [List.zip_cons_cons]
        refine PySem.W.kat_cons (eqAt_reads x y A s _ _ _ _ r1 q1 c1 c3 (by have := Nat.min_le_left x.depth y.depth; omega) prog w _ _ ?_)
        refine PySem.W.kat_go (fun e => ?_) (fun e => ?_)
        · rw [if_pos e] at h
          exact PySem.W.kat_yes (katlex_reads b P fin xs ys _ _ _ _ _ k r2 q2 c2 c4 (by omega) h (by rw [hf]; simp) (fun _ z => by omega) hp)
        · rw [if_neg (by rw [e]; decide)] at h
          refine PySem.W.kat_no ?_
          cases hb : (b && i == 0) with
          | false => exact PySem.W.kat_one _ _ (lt_reads x y A s _ _ _ _ k r1 q1 c1 c3 (by omega) h prog w _ _ ⟨hp, rfl⟩)
          | true =>
            rw [Bool.and_eq_true, beq_iff_eq] at hb
            obtain ⟨⟨m, rfl⟩, n, rfl⟩ := hi hb.1 hb.2 _ _ rfl _ _ rfl
            cases r1
            cases q1
            unfold ltD at h
            cases h
            exact oneLt_int ⟨hp, rfl⟩
/-- an item: a tuple that lies at a, with what it holds -/
structure ItemAt (h : Heap) (v : Value) (d : D) : Prop where
  rd : ∃ as, Reads h v d as
  lay : d.canLay0 = true
  dep : d.depth ≤ 20
theorem ItemAt.key {h : Heap} {v : Value} {d : D} (i : ItemAt h v d) : keyV h v = flat d := by
  obtain ⟨as, r⟩ := i.rd
  unfold keyV
  rw [readOf_eq i.lay r]
theorem data_cmp {h0 : Heap} {vs : List Value} {b : Bool} (hu : A.units + 30 < cLine) (hp : ∀ v ∈ vs, ∃ d, ItemAt h0 v d ∧ ItemAt s.heap v d ∧ begD b d = true) (hc : ∀ v ∈ vs, ∀ u ∈ vs, ∀ d e, ItemAt h0 v d → ItemAt h0 u e → ltD d e = some (HT.lexLt (flat d) (flat e))) :
    Cmp prog w A s (tuples' b) (fun p => p.1 ∈ vs) (lt2 fun v u => HT.lexLt (keyV h0 v) (keyV h0 u)) := by
  intro p q hm hm'
  obtain ⟨d, i1, j1, g1⟩ := hp _ hm
  obtain ⟨e, i2, j2, g2⟩ := hp _ hm'
  have hlt := hc _ hm _ hm' d e i1 i2
  show wpAny (model prog w) A (keyLt' (tuples' b) p.1 q.1) (fun r s' => s' = s ∧ r = HT.lexLt (keyV h0 p.1) (keyV h0 q.1)) (fun _ _ => False) s
  rw [i1.key, i2.key]
  cases d with
  | tuple xs =>
    cases e with
    | tuple ys =>
      obtain ⟨as, r1⟩ := j1.rd
      obtain ⟨bs, r2⟩ := j2.rd
      have c1 := j1.lay
      have c2 := j2.lay
      have d1 := j1.dep
      generalize p.1 = v at r1 ⊢
      generalize q.1 = u at r2 ⊢
      cases r1 with
      | @tuple l o vs' n _ as₁ h1 h2 h3 h4 =>
        cases r2 with
        | @tuple l' o' vs'' n' _ bs₁ k1 k2 k3 k4 =>
          unfold PyData.canLay0 at c1 c2
          unfold PyData.depth at d1
          unfold ltD at hlt
          have n1 : vs'.size = xs.length := by simpa using ReadsAll.length _ _ _ h4
          have n2 : vs''.size = ys.length := by simpa using ReadsAll.length _ _ _ k4
          refine PySem.W.kat_lt h1 h3 k1 k3 (katlex_reads b (fun s' => s' = s) _ xs ys _ _ _ _ 0 _ h4 k4 c1 c2 (by omega) hlt (by rw [n1, n2]) ?_ rfl)
          rintro rfl - x xs' rfl y ys' rfl
          constructor
          · cases x <;> first | exact ⟨_, rfl⟩ | (cases g1; done)
          · cases y <;> first | exact ⟨_, rfl⟩ | (cases g2; done)
    | _ => cases g2
  | _ => cases g1
theorem data_sortable {h0 : Heap} {a : Addr} {vs : List Value} {b : Bool} (hu : A.units + 30 < cLine) (h0l : 0 < vs.length) (hp : ∀ v ∈ vs, ∃ d, ItemAt h0 v d ∧ begD b d = true) (hk : ∀ b o, h0.get? b = some o → b ≠ a ∧ s.heap.get? b = some o) (hc : ∀ v ∈ vs, ∀ u ∈ vs, ∀ d e, ItemAt h0 v d → ItemAt h0 u e → ltD d e = some (HT.lexLt (flat d) (flat e))) :
    SortableO prog w A s a vs fun v u => HT.lexLt (keyV h0 v) (keyV h0 u) := by
  intro h' keep
  have kk : ∀ b o, h0.get? b = some o → h'.get? b = some o := fun b o e => keep b o (hk b o e).1 (hk b o e).2
  have hp' : ∀ v ∈ vs, ∃ d, ItemAt h0 v d ∧ ItemAt h' v d ∧ begD b d = true := fun v hv => by
    obtain ⟨d, i, g⟩ := hp v hv
    obtain ⟨as, r⟩ := i.rd
    exact ⟨d, i, ⟨⟨as, Reads.keeps kk r⟩, i.lay, i.dep⟩, g⟩
  have firsts : ∀ l : List Value, (∀ v ∈ l, ∃ d, ItemAt h' v d ∧ begD b d = true) → ∃ fs, PySem.W.KatTups h' l fs ∧ fs.length = l.length ∧ ∀ f ∈ fs, (b = true ∧ ∃ i t, f = .int i t) ∨ (b = false ∧ ∃ l o, f = .ref l ∧ h'.get? l = some o ∧ o.cls = .type "tuple") := by
    intro l
    induction l with
    | nil => intro _; exact ⟨[], .nil, rfl, fun f hf => by cases hf⟩
    | cons v l ih =>
      intro hl
      obtain ⟨fs, t, hlen, hf⟩ := ih fun u hu => hl u (List.mem_cons_of_mem _ hu)
      obtain ⟨d, i, g⟩ := hl v (List.mem_cons_self ..)
      obtain ⟨as, r⟩ := i.rd
      cases d with
      | tuple xs =>
        cases r with
        | @tuple l' o vs' n _ as₁ h1 h2 h3 h4 =>
          obtain ⟨vsl⟩ := vs'
          cases xs with
          | nil => cases g
          | cons x xs =>
            cases h4 with
            | cons r1 r2 =>
              refine ⟨_ :: fs, .cons h1 h2 h3 (by simp; rfl) t, by simp [hlen], fun f hf' => ?_⟩
              rcases List.mem_cons.mp hf' with rfl | hf'
              · cases x with
                | int i => cases r1; exact .inl ⟨g, _, _, rfl⟩
                | tuple ys =>
                  cases r1 with
                  | tuple k1 k2 k3 k4 => exact .inr ⟨by simpa [begD] using g, _, _, rfl, k1, k2⟩
                | _ => cases g
              · exact hf f hf'
      | _ => cases g
  obtain ⟨fs, t, hlen, hf⟩ := firsts vs fun v hv => by
    obtain ⟨d, _, i, g⟩ := hp' v hv
    exact ⟨d, i, g⟩
  refine ⟨tuples' b, fun Q E hq => ?_, data_cmp hu hp' hc⟩
  cases hb : b with
  | true =>
    subst hb
    refine PySem.W.kat_kind (T := .type "int") t (by omega) (fun f hm => ?_) (by rfl) ?_
    · rcases hf f hm with ⟨_, x, t, rfl⟩ | ⟨h, _⟩
      · exact PySem.W.Looks.now
      · cases h
    · have e : (Value.type "int" != Value.type "tuple") = true := by first | decide +kernel | rfl | decide
      rw [e]
      exact hq
  | false =>
    subst hb
    refine PySem.W.kat_kind (T := .type "tuple") t (by omega) (fun f hm => ?_) (by rfl) ?_
    · rcases hf f hm with ⟨h, _⟩ | ⟨_, l, o, rfl, ho, hc⟩
      · cases h
      · rw [← hc]
        exact (PySem.W.Looks.ld ho).andThen .now
    · have e : (Value.type "tuple" != Value.type "tuple") = false := by first | decide +kernel | rfl | decide
      rw [e]
      exact hq
/-- sorted(l) of tuples: a new list, rearranged, in order -/
theorem sorted_data {l : Addr} {vs : List Value} {b : Bool} {Q : Value → Shared → Prop} (hu : A.units + 32 < cLine) (hl : s.heap.IsList l vs.toArray) (hz : vs.length ≤ sizeLine) (hp : ∀ v ∈ vs, ∃ d, ItemAt s.heap v d ∧ begD b d = true)
    (hc : ∀ v ∈ vs, ∀ u ∈ vs, ∀ d e, ItemAt s.heap v d → ItemAt s.heap u e → ltD d e = some (HT.lexLt (flat d) (flat e)))
    (h : ∀ (h' : Heap) (d : Addr) (out : List Value), out.Perm vs → out.Pairwise (fun v u => HT.lexLt (keyV s.heap u) (keyV s.heap v) = false) → (∀ b o, s.heap.get? b = some o → h'.get? b = some o) → s.heap.objs.size ≤ d → (∃ n, h'.get? d = some (seqObj "list" out.toArray n)) → Q (.ref d) { s with heap := h' }) :
    wpAny (model prog w) A (call (.builtin "sorted") [.ref l]) Q E s := by
  refine sorted_ord (swo_key s.heap) hl hz (fun h2 h₁ a ha kk => ?_) fun out hs hb => ?_
  · exact data_sortable (s := { s with heap := h₁ }) (by show A.units + 1 + 1 + 30 < cLine; omega) (by omega) hp kk hc
  · exact h _ _ out hb.perm hs (fun b o e => sortedAll_old e) (Nat.le_succ _) (sortedAll_at s.heap vs out.toArray)
/-- the items of a tuple, collected -/
theorem collectT {l : Addr} {vs : List Value} {Q : List Value → Shared → Prop} (ht : IsTup s.heap l vs.toArray) (hz : vs.length ≤ sizeLine)
    (h : Q vs { s with heap := (s.heap.push (seqObj "list" #[] 0)).update s.heap.objs.size (Obj.mapSeq (· ++ vs.toArray)) }) : wpAny (model prog w) A (collect (.ref l)) Q E s := by
  obtain ⟨ob, hob, hcl, nn, hdt⟩ := ht
  unfold collect; refine wpAny_bind (wpAny_runValue (codeAny_builtin entry_proto_collect' ?_))
  show wpAny _ _ (do again (.builtin "list.__iadd__" ⟨[← newList [], .ref l], []⟩)) _ _ s; refine wpAny_bind (wpAny_newList (wpAny_pure ⟨Code.quiet_builtin _ (by decide +kernel), codeAny_builtin entry_list_iadd' ?_⟩))
  show wpAny _ _ (Builtin.List.listExtendWith (.ref s.heap.objs.size) (.ref l) (.ref s.heap.objs.size)) _ _ { s with heap := s.heap.push (seqObj "list" #[] 0) }; unfold Builtin.List.listExtendWith
  have hob' : (s.heap.push (seqObj "list" #[] 0)).get? l = some ob := Heap.get?_push_of_some _ hob
  refine wpAny_bind (wpAny_typeOf (T := "tuple") ⟨ob, hob', hcl⟩ ?_); rw [if_pos (by rw [show (Value.type "tuple" == Value.type "tuple") = true from rfl, Bool.or_true])]
  refine wpAny_bind (listItems_at hob' hdt ?_); refine wpAny_bind (listItems_at (xs := #[]) (n := 0) (Heap.get?_push_size _ rfl) rfl ?_); rw [if_neg (by simp)]
  refine wpAny_bind (listUpdate_at (xs := #[]) (n := 0) (Heap.get?_push_size _ rfl) rfl (wpAny_pure ?_) (Nat.zero_le _) (by show (#[] ++ vs.toArray).size ≤ sizeLine + 1; simp only [Array.size_append, List.size_toArray, List.length_nil]; omega))
  have same : ((#[] : Array Value) ++ vs.toArray).toList = vs := by simp
  show wpAny (model prog w) A (do match (← load s.heap.objs.size).data with | .seq xs _ => pure xs.toList | _ => unsupported "internal:collect") Q E { s with heap := (s.heap.push (seqObj "list" #[] 0)).update s.heap.objs.size (Obj.mapSeq (· ++ vs.toArray)) }
  refine wpAny_bind (wpAny_load (get?_update_seq (Heap.get?_push_size _ rfl) _) ?_); show wpAny _ _ (pure ((#[] : Array Value) ++ vs.toArray).toList) Q E _; rw [same]; exact wpAny_pure h
/-- sorted(t) of a tuple, by an order -/
theorem sortedT_ord {l : Addr} {vs : List Value} {ltv : Value → Value → Bool} {Q : Value → Shared → Prop} (O : Swo ltv) (ht : IsTup s.heap l vs.toArray) (hz : vs.length ≤ sizeLine)
    (hS : 2 ≤ vs.length → ∀ (g : Heap) (c : Addr), g.get? c = some (seqObj "list" vs.toArray 0) → (∀ b o, s.heap.get? b = some o → b ≠ c ∧ g.get? b = some o) → SortableO prog w A.in1.in1 { s with heap := g } c vs ltv) (h : ∀ out : List Value, Srtd ltv out → Stb ltv out vs → Q (.ref (s.heap.objs.size + 1)) { s with heap := sortedAll s.heap vs out.toArray }) : wpAny (model prog w) A (call (.builtin "sorted") [.ref l]) Q E s := by
  refine Calls.call_function_entry kind_sorted plain_sorted entry_sorted (args_sorted1 _) ?_; unfold Builtin.«sorted»
  refine wpAny_bind (m := checkCount "sorted" 1 1 _) (wpAny_pure ?_); refine wpAny_bind (collectT ht hz ?_); refine wpAny_bind (wpAny_newList ?_ hz)
  generalize hC : (s.heap.push (seqObj "list" #[] 0)).update s.heap.objs.size (Obj.mapSeq (· ++ vs.toArray)) = C
  have size : C.objs.size = s.heap.objs.size + 1 := by rw [← hC, Heap.size_update, size_push']
  have at1 : (C.push (seqObj "list" vs.toArray 0)).get? (s.heap.objs.size + 1) = some (seqObj "list" vs.toArray 0) := by rw [← size]; exact Heap.get?_push_size _ rfl
  have old : ∀ b o, s.heap.get? b = some o → b ≠ s.heap.objs.size + 1 ∧ (C.push (seqObj "list" vs.toArray 0)).get? b = some o := fun b o q => by
    have lt : b < s.heap.objs.size := Heap.lt_size q
    refine ⟨Nat.ne_of_lt (Nat.lt_succ_of_lt lt), Heap.get?_push_of_some _ ?_⟩; rw [← hC, Heap.get?_update_ne _ _ _ _ (Nat.ne_of_lt lt)]; exact Heap.get?_push_of_some _ q
  show wpAny _ _ _ _ _ { s with heap := C.push (seqObj "list" vs.toArray 0) }; rw [size]
  refine wpAny_bind (wpAny_holding (wpAny_call_entry slot_list_sort ⟨_, at1, rfl⟩ entry_list_sort (list_sort_ord O at1 hz (fun two => hS two _ _ at1 old) fun out hs hb => ⟨_, rfl, ?_⟩) (args_list_sort _))); subst hC; exact wpAny_pure ⟨_, rfl, h out hs hb⟩
/-- sorted(t) of a tuple of tuples -/
theorem sorted_dataT {l : Addr} {vs : List Value} {b : Bool} {Q : Value → Shared → Prop} (hu : A.units + 32 < cLine) (ht : IsTup s.heap l vs.toArray) (hz : vs.length ≤ sizeLine) (hp : ∀ v ∈ vs, ∃ d, ItemAt s.heap v d ∧ begD b d = true)
    (hc : ∀ v ∈ vs, ∀ u ∈ vs, ∀ d e, ItemAt s.heap v d → ItemAt s.heap u e → ltD d e = some (HT.lexLt (flat d) (flat e)))
    (h : ∀ (h' : Heap) (d : Addr) (out : List Value), out.Perm vs → out.Pairwise (fun v u => HT.lexLt (keyV s.heap u) (keyV s.heap v) = false) → (∀ b o, s.heap.get? b = some o → h'.get? b = some o) → s.heap.objs.size ≤ d → (∃ n, h'.get? d = some (seqObj "list" out.toArray n)) → Q (.ref d) { s with heap := h' }) :
    wpAny (model prog w) A (call (.builtin "sorted") [.ref l]) Q E s := by
  refine sortedT_ord (swo_key s.heap) ht hz (fun h2 h₁ a ha kk => ?_) fun out hs hb => ?_
  · exact data_sortable (s := { s with heap := h₁ }) (by show A.units + 1 + 1 + 30 < cLine; omega) (by omega) hp kk hc
  · exact h _ _ out hb.perm hs (fun b o e => sortedAll_old e) (Nat.le_succ _) (sortedAll_at s.heap vs out.toArray)
theorem sorted_dataE {l : Addr} {vs : List Value} {b : Bool} {Q : Value → Shared → Prop} (hu : A.units + 32 < cLine) (hl : s.heap.IsList l vs.toArray ∨ IsTup s.heap l vs.toArray) (hz : vs.length ≤ sizeLine) (hp : ∀ v ∈ vs, ∃ d, ItemAt s.heap v d ∧ begD b d = true)
    (hc : ∀ v ∈ vs, ∀ u ∈ vs, ∀ d e, ItemAt s.heap v d → ItemAt s.heap u e → ltD d e = some (HT.lexLt (flat d) (flat e)))
    (h : ∀ (h' : Heap) (d : Addr) (out : List Value), out.Perm vs → out.Pairwise (fun v u => HT.lexLt (keyV s.heap u) (keyV s.heap v) = false) → (∀ b o, s.heap.get? b = some o → h'.get? b = some o) → s.heap.objs.size ≤ d → (∃ n, h'.get? d = some (seqObj "list" out.toArray n)) → Q (.ref d) { s with heap := h' }) :
    wpAny (model prog w) A (call (.builtin "sorted") [.ref l]) Q E s := by
  rcases hl with hl | ht
  · exact sorted_data hu hl hz hp hc h
  · exact sorted_dataT hu ht hz hp hc h
end
/-! ### as a rule of the layer -/
/-! ### chains of three -/
section
variable {X : Cx} {a b c d : Expr} {pos : Pos} {ta tb tc td : TE}
def tChain3 (r r' r2 : R2) (ta tb tc td : TE) : TE := fun σ H Q => ta σ H fun x H1 => tb σ H1 fun y H2 => r x y H2 fun z H3 => ∃ k, z = .bl k ∧
  (if k = true then tc σ H3 fun w H4 => r' y w H4 fun z' H5 => ∃ k', z' = .bl k' ∧ (if k' = true then td σ H5 fun u H6 => r2 w u H6 Q else Q (.bl false) H5) else Q (.bl false) H3)
theorem pe_chain3 {op op' op2 : CmpOp} {r r' r2 : R2} (ho : OpR X (compareOp op) r) (ho' : OpR X (compareOp op') r') (ho2 : OpR X (compareOp op2) r2) (ha : PE X a ta) (hb : PE X b tb) (hc : PE X c tc) (hd : PE X d td)
    (hm : lastMarks [op, op', op2] [b, c, d] = false) : PE X (.Compare a [op, op', op2] [b, c, d] pos) (tChain3 r r' r2 ta tb tc td) := by
  refine ⟨fun pins s σ H Q I h => Compare_chain (thn (ha.run pins s σ H _ I h) fun v s1 ⟨x, H1, I1, r1, q1⟩ => chain_link (thn (hb.run pins s1 σ H1 _ I1 q1) fun u s2 ⟨y, H2, I2, rr2, q2⟩ => thn (ho pins s2 σ H2 x y v u _ I2 r1 rr2 q2) fun d1 s3 ⟨z, H3, I3, r3, k, e, q3⟩ => ?_)) hm⟩
  subst e
  cases r3
  refine wpAny_truthy_bool ?_
  cases k with
  | false => exact ite_ff ⟨.bl false, H3, I3, rfl, q3⟩
  | true =>
    refine ite_tt (chain_link (thn (hc.run pins s3 σ H3 _ I3 q3) fun w' s4 ⟨z', H4, I4, r4, q4⟩ => thn (ho' pins s4 σ H4 y z' u w' _ I4 rr2 r4 q4) fun d2 s5 ⟨z2, H5, I5, r5, k2, e2, q5⟩ => ?_))
    subst e2
    cases r5
    refine wpAny_truthy_bool ?_
    cases k2 with
    | false => exact ite_ff ⟨.bl false, H5, I5, rfl, q5⟩
    | true => exact ite_tt (chain_last (thn (hd.run pins s5 σ H5 _ I5 q5) fun w2 s6 ⟨z3, H6, I6, r6, q6⟩ => ho2 pins s6 σ H6 z' z3 w' w2 Q I6 r4 r6 q6))
theorem pt_chain3 {op op' op2 : CmpOp} {r r' r2 : R2} (ho : OpR X (compareOp op) r) (ho' : OpR X (compareOp op') r') (ho2 : OpR X (compareOp op2) r2) (ha : PE X a ta) (hb : PE X b tb) (hc : PE X c tc) (hd : PE X d td)
    (hm : lastMarks [op, op', op2] [b, c, d] = false) : PT X (.Compare a [op, op', op2] [b, c, d] pos) (tTest (tChain3 r r' r2 ta tb tc td)) := by
  refine ⟨fun pins s σ H Q I h => isTrue_chain (thn (ha.run pins s σ H _ I h) fun v s1 ⟨x, H1, I1, r1, q1⟩ => test_link (thn (hb.run pins s1 σ H1 _ I1 q1) fun u s2 ⟨y, H2, I2, rr2, q2⟩ => thn (ho pins s2 σ H2 x y v u _ I2 r1 rr2 q2) fun d1 s3 ⟨z, H3, I3, r3, k, e, q3⟩ => ?_)) hm⟩
  subst e
  cases r3
  refine wpAny_truthy_bool ?_
  cases k with
  | false =>
    obtain ⟨k', e', q'⟩ := q3
    cases e'
    exact ite_ff ⟨H3, I3, q'⟩
  | true =>
    refine ite_tt (test_link (thn (hc.run pins s3 σ H3 _ I3 q3) fun w' s4 ⟨z', H4, I4, r4, q4⟩ => thn (ho' pins s4 σ H4 y z' u w' _ I4 rr2 r4 q4) fun d2 s5 ⟨z2, H5, I5, r5, k2, e2, q5⟩ => ?_))
    subst e2
    cases r5
    refine wpAny_truthy_bool ?_
    cases k2 with
    | false =>
      obtain ⟨k', e', q'⟩ := q5
      cases e'
      exact ite_ff ⟨H5, I5, q'⟩
    | true =>
      refine ite_tt (test_last (thn (hd.run pins s5 σ H5 _ I5 q5) fun w2 s6 ⟨z3, H6, I6, r6, q6⟩ => thn (ho2 pins s6 σ H6 z' z3 w' w2 _ I6 r4 r6 q6) fun d3 s7 ⟨z4, H7, I7, r7, k3, e3, q7⟩ => ?_))
      subst e3
      cases r7
      exact wpAny_truthy_bool ⟨H7, I7, q7⟩
end
/-! ### sorted, min, max of alike data -/
def rSortedG (K : PySem.W.Frag) : List V → Hp → VK → Prop := fun vs H Q => ∃ (a : Addr) (xs : List V) (ds : List D), vs = [V.ref a] ∧ SqL K H a xs ∧ DpAll K H xs ds ∧ Ordered ds ∧
  ∀ (ys : List V) (p : Addr), PySem.W.EachIs (fun v d => ∃ x ∈ xs.zip ds, x = (v, d)) ys (sortL ds) → H p = none → Q (.ref p) (upd H p (.lst ys))
def rBest (f : D → List D → D) (K : PySem.W.Frag) : List V → Hp → VK → Prop := fun vs H Q => ∃ (a : Addr) (xs : List V) (d : D) (ds : List D), vs = [V.ref a] ∧ (SqL K H a xs ∨ SqT K H a xs) ∧ DpAll K H xs (d :: ds) ∧ (PySem.W.AlikeAll (d :: ds) ∧ PyData.canLayAll0 (d :: ds) = true ∧ PyData.depthAll (d :: ds) ≤ 40) ∧
  ∀ (i : Nat) (v : V) (e : D), xs[i]? = some v → (d :: ds)[i]? = some e → e = f d ds → Q v H
def rSortedD (K : PySem.W.Frag) : List V → Hp → VK → Prop := fun vs H Q => ∃ (a : Addr) (xs : List V) (ds : List D), vs = [V.ref a] ∧ (SqL K H a xs ∨ SqT K H a xs) ∧ DpAll K H xs ds ∧ Sortable ds ∧
  ∀ (ys : List V) (p : Addr), ys.Perm xs → (∀ es : List D, DpAll K H ys es → (∀ e ∈ es, e ∈ ds) → es.Pairwise fun d e => HT.lexLt (flat e) (flat d) = false) → H p = none → Q (.ref p) (upd H p (.lst ys))
theorem readsAll_mem {h : Heap} : ∀ {vs : List Value} {ds : List D} {as : List Addr}, ReadsAll h vs ds as → ∀ v ∈ vs, ∃ d ∈ ds, ∃ as', Reads h v d as'
  | _, _, _, .nil, v, hv => by cases hv
  | _, _, _, .cons r t, v, hv => by
    rcases List.mem_cons.mp hv with rfl | hv
    · exact ⟨_, List.mem_cons_self .., _, r⟩
    · obtain ⟨d, hd, as', r'⟩ := readsAll_mem t v hv
      exact ⟨d, List.mem_cons_of_mem _ hd, as', r'⟩
theorem readsAll_keys {h : Heap} : ∀ {vs : List Value} {ds : List D} {as : List Addr}, ReadsAll h vs ds as → (∀ d ∈ ds, d.canLay0 = true) → vs.map (keyV h) = ds.map flat
  | _, _, _, .nil, _ => rfl
  | _, _, _, .cons (v := v) (d := d) r t, hc => by
    rw [List.map_cons, List.map_cons, readsAll_keys t fun e he => hc e (List.mem_cons_of_mem _ he)]
    congr 1
    unfold keyV
    rw [readOf_eq (hc d (List.mem_cons_self ..)) r]
theorem cr_sortedD {X : Cx} (hu : X.A.units + 65 < cLine) : CallR X (.builtin "sorted") (rSortedD X.K) := by
  intro pins s σ H vs us Q I r h
  obtain ⟨a, xs, ds, rfl, hs, hd, so, q⟩ := h
  have two : ∃ its : List Value, Vals xs its ∧ (s.heap.IsList a its.toArray ∨ IsTup s.heap a its.toArray) ∧ xs.length ≤ sizeLine := by
    rcases hs with hs | hs
    · obtain ⟨its, rv, hl, hz⟩ := I.list hs
      exact ⟨its, rv, .inl hl.isList, hz⟩
    · obtain ⟨its, rv, hl, hz⟩ := I.tuple hs
      exact ⟨its, rv, .inr hl, hz⟩
  obtain ⟨its, rv, hl, hz⟩ := two
  obtain ⟨u, rfl, ru⟩ := vals1 r
  obtain rfl : u = Value.ref a := ru
  obtain ⟨as, ra⟩ := Dp.readsAll I ds xs its hd rv
  obtain ⟨b, hb⟩ := so.beg
  have isRef : ∀ d ∈ ds, ∃ l, d = PyData.tuple l := fun d hd => by
    have := hb d hd
    cases d <;> first | exact ⟨_, rfl⟩ | (cases this; done)
  have xref : ∀ (xs : List V) (ds : List D), DpAll X.K H xs ds → (∀ d ∈ ds, ∃ l, d = PyData.tuple l) → ∀ x ∈ xs, ∃ t, x = V.ref t := by
    intro xs ds h
    induction xs generalizing ds with
    | nil => intro _ x hx; cases hx
    | cons y ys ih =>
      intro hd x hx
      cases h with
      | cons h1 h2 =>
        rcases List.mem_cons.mp hx with rfl | hx
        · obtain ⟨l, rfl⟩ := hd _ (List.mem_cons_self ..)
          cases h1
          exact ⟨_, rfl⟩
        · exact ih _ h2 (fun d hd' => hd d (List.mem_cons_of_mem _ hd')) x hx
  obtain ⟨e1, e2⟩ := refs_back rv (xref xs ds hd isRef)
  have item : ∀ v ∈ its, ∃ d ∈ ds, ItemAt s.heap v d := fun v hv => by
    obtain ⟨d, hd, as', r⟩ := readsAll_mem ra v hv
    exact ⟨d, hd, ⟨as', r⟩, (so.lay d hd).1, (so.lay d hd).2⟩
  have same : ∀ {v : Value} {d e : D}, ItemAt s.heap v d → ItemAt s.heap v e → d = e := fun i j => by
    obtain ⟨as1, r1⟩ := i.rd
    obtain ⟨as2, r2⟩ := j.rd
    rw [← readOf_eq i.lay r1, ← readOf_eq j.lay r2]
  refine sorted_dataE (b := b) (by omega) hl (by rw [← rv.length]; exact hz) (fun v hv => ?_) (fun v hv u hu d e i j => ?_) fun h' d out hp hsr kp hdz hn => ?_
  · obtain ⟨d, hd, i⟩ := item v hv
    exact ⟨d, i, hb d hd⟩
  · obtain ⟨d', hd, i'⟩ := item v hv
    obtain ⟨e', he, j'⟩ := item u hu
    have := same i i'
    have := same j j'
    subst d' e'
    exact so.cmp d hd e he
  · have h3 : ∀ u ∈ out, ∃ a, u = Value.ref a := fun u hu => e2 u (hp.mem_iff.mp hu)
    obtain ⟨n, hn⟩ := hn
    have hperm : (out.map backV).Perm xs := by
      rw [e1]
      exact hp.map backV
    refine ⟨.ref d, upd H d (.lst (out.map backV)), I.laid (t' := s.toks) kp hdz ⟨?_, out, n, vals_back h3, hn⟩, rfl, q _ d hperm (fun es hes hin => ?_) (I.hok.fresh hdz)⟩
    · rw [hperm.length_eq]
      exact hz
    · obtain ⟨as', ro⟩ := Dp.readsAll I es _ out hes (vals_back h3)
      have ek := readsAll_keys ro fun e he => (so.lay e (hin e he)).1
      have h1 : (out.map (keyV s.heap)).Pairwise fun x y => HT.lexLt y x = false := List.pairwise_map.mpr hsr
      rw [ek] at h1
      exact List.pairwise_map.mp h1
theorem vals_at : ∀ {xs : List V} {us : List Value} {i : Nat} {u : Value}, Vals xs us → us[i]? = some u → ∃ x, xs[i]? = some x ∧ RelV x u
  | _, _, _, _, .nil, h => by simp at h
  | _, _, 0, _, .cons r _, h => by simp at h; subst h; exact ⟨_, rfl, r⟩
  | _, _, i + 1, u, .cons _ t, h => by
    obtain ⟨x, h1, h2⟩ := vals_at (i := i) (u := u) t (by simpa using h)
    exact ⟨x, by simpa using h1, h2⟩
theorem readsAll_get {h : Heap} : ∀ {vs : List Value} {ds : List D} {as : List Addr} {i : Nat} {v : Value}, ReadsAll h vs ds as → vs[i]? = some v → ∃ d as', ds[i]? = some d ∧ Reads h v d as'
  | _, _, _, _, _, .nil, h => by simp at h
  | _, _, _, 0, _, .cons r _, h => by simp at h; subst h; exact ⟨_, _, rfl, r⟩
  | _, _, _, i + 1, v, .cons _ t, h => by
    obtain ⟨d, as', h1, h2⟩ := readsAll_get (i := i) (v := v) t (by simpa using h)
    exact ⟨d, as', by simpa using h1, h2⟩
theorem best_done {X : Cx} {pins : List (Addr × Obj)} {s : Shared} {σ : L2.St} {H : Hp} {xs : List V} {its : List Value} {ds : List D} {as : List Addr} {Q : VK} {m : D} (I : Inv X pins σ H s) (rv : Vals xs its) (ra : ReadsAll s.heap its ds as) (hc : PyData.canLayAll0 ds = true)
    (q : ∀ (i : Nat) (v : V) (e : D), xs[i]? = some v → ds[i]? = some e → e = m → Q v H) {i : Nat} {v : Value} {h' : Heap} {tk : Nat} {bs : List Addr} (hv : its[i]? = some v) (r : Reads h' v m bs) (k : ∀ b o, s.heap.get? b = some o → h'.get? b = some o) : EP X pins σ Q v { s with heap := h', toks := tk } := by
  obtain ⟨x, hx, rx⟩ := vals_at rv hv
  obtain ⟨e, as', he, re⟩ := readsAll_get ra hv
  have hm : e ∈ ds := List.mem_of_getElem? he
  have ce : e.canLay0 = true := by
    have go : ∀ l : List D, PyData.canLayAll0 l = true → ∀ d ∈ l, d.canLay0 = true := by
      intro l
      induction l with
      | nil => intro _ d hd; cases hd
      | cons y ys ih =>
        intro h d hd
        obtain ⟨h1, h2⟩ := canAll h
        rcases List.mem_cons.mp hd with rfl | hd
        · exact h1
        · exact ih h2 d hd
    exact go ds hc e hm
  have em : e = m := Reads.unique e m _ _ _ ce (Reads.keeps k re) r
  exact ⟨x, H, I.kept k, rx, q i x e hx he em⟩
theorem cr_minG {X : Cx} (hc : X.calm = true) (hu : X.A.units + 65 < cLine) : CallR X (.builtin "min") (rBest PySem.W.minD X.K) := by
  intro pins s σ H vs us Q I r h
  obtain ⟨a, xs, d, ds, rfl, hs, hd, ⟨al, cl, dp⟩, q⟩ := h
  rw [Vals.ref1 r]
  rcases hs with hs | hs
  · obtain ⟨its, rv, hl, _⟩ := I.list hs
    obtain ⟨as, ra⟩ := Dp.readsAll I (d :: ds) xs its hd rv
    exact PySem.W.min_list_data (vs := its.toArray) (I.ok.hd hc) hl.isList ra al (by omega) fun i v h' tk bs hv r k => best_done I rv ra cl q (by simpa using hv) r k
  · obtain ⟨its, rv, ht, _⟩ := I.tuple hs
    obtain ⟨as, ra⟩ := Dp.readsAll I (d :: ds) xs its hd rv
    exact PySem.W.min_tuple_data (vs := its.toArray) (I.ok.hd hc) ht ra al (by omega) fun i v h' tk bs hv r k => best_done I rv ra cl q (by simpa using hv) r k
theorem cr_maxG {X : Cx} (hc : X.calm = true) (hu : X.A.units + 65 < cLine) : CallR X (.builtin "max") (rBest PySem.W.maxD X.K) := by
  intro pins s σ H vs us Q I r h
  obtain ⟨a, xs, d, ds, rfl, hs, hd, ⟨al, cl, dp⟩, q⟩ := h
  rw [Vals.ref1 r]
  rcases hs with hs | hs
  · obtain ⟨its, rv, hl, _⟩ := I.list hs
    obtain ⟨as, ra⟩ := Dp.readsAll I (d :: ds) xs its hd rv
    exact PySem.W.max_list_data (vs := its.toArray) (I.ok.hd hc) hl.isList ra al (by omega) fun i v h' tk bs hv r k => best_done I rv ra cl q (by simpa using hv) r k
  · obtain ⟨its, rv, ht, _⟩ := I.tuple hs
    obtain ⟨as, ra⟩ := Dp.readsAll I (d :: ds) xs its hd rv
    exact PySem.W.max_tuple_data (vs := its.toArray) (I.ok.hd hc) ht ra al (by omega) fun i v h' tk bs hv r k => best_done I rv ra cl q (by simpa using hv) r k
theorem cr_sortedG {X : Cx} (hu : X.A.units + 65 < cLine) : CallR X (.builtin "sorted") (rSortedG X.K) := by
  intro pins s σ H vs us Q I r h
  obtain ⟨a, xs, ds, rfl, hs, hd, so, q⟩ := h
  obtain ⟨its, rv, hl, hz⟩ := I.list hs
  rw [Vals.ref1 r]
  obtain ⟨as, ra⟩ := Dp.readsAll I ds xs its hd rv
  have er : PySem.W.EachIs (fun v b => ∃ as, Reads s.heap v b as) its ds := by
    have := PySem.W.readsAll_each (enc := id) (bs := ds) (vs := its) (h := s.heap) (as := as) (by rw [List.map_id]; exact ra)
    exact this
  have eR : ∀ (Z : List (V × D)) (xs : List V) (its : List Value) (ds : List D), Vals xs its → xs.length = ds.length → (∀ z ∈ xs.zip ds, z ∈ Z) → PySem.W.EachIs (fun (v : Value) (d : D) => ∃ x, (x, d) ∈ Z ∧ RelV x v) its ds := by
    intro Z xs its ds rv
    induction rv generalizing ds with
    | nil => intro hl _; cases ds <;> first | exact .nil | cases hl
    | cons r t ih =>
      intro hl hz
      cases ds with
      | nil => cases hl
      | cons d ds => exact .cons ⟨_, hz _ (List.mem_cons_self ..), r⟩ (ih ds (by simpa using hl) fun z hz' => hz z (List.mem_cons_of_mem _ hz'))
  have hlen : xs.length = ds.length := by
    have h1 := rv.length
    have h2 := ReadsAll.length _ _ _ ra
    omega
  refine PySem.W.sorted_data (enc := id) (bs := ds) hl.isList (eR (xs.zip ds) xs its ds rv hlen fun z hz => hz) er (by rw [List.map_id]; exact so.al) (by rw [List.map_id]; exact so.ok) (by rw [← hlen]; exact hz) (fun b hb => by have := so.dep b hb; show X.A.units + 2 + b.depth < cLine; omega) fun out ho eo => ?_
  have back : ∀ (out : List Value) (es : List D), PySem.W.EachIs (fun (v : Value) (d : D) => ∃ x, (x, d) ∈ xs.zip ds ∧ RelV x v) out es → ∃ ys, Vals ys out ∧ PySem.W.EachIs (fun v d => ∃ x ∈ xs.zip ds, x = (v, d)) ys es := by
    intro out es e
    induction e with
    | nil => exact ⟨[], .nil, .nil⟩
    | cons h t ih =>
      obtain ⟨x, hx, rx⟩ := h
      obtain ⟨ys, h1, h2⟩ := ih
      exact ⟨x :: ys, .cons rx h1, .cons ⟨_, hx, rfl⟩ h2⟩
  obtain ⟨ys, vy, ey⟩ := back out _ eo
  obtain ⟨ep, he'⟩ := PyProof.Rows.sortedAll_at s.heap its out.toArray
  exact ⟨.ref _, upd H (s.heap.objs.size + 1) (.lst ys), I.laid (t' := s.toks) (fun _ _ => PyProof.Rows.sortedAll_old) (Nat.le_succ _) ⟨by rw [vy.length, ho, ← hlen]; exact hz, out, ep, vy, he'⟩, rfl, q ys _ ey (I.hok.fresh (Nat.le_succ _))⟩
end DL

set_option Elab.async false
set_option linter.all false
set_option maxRecDepth 100000
set_option maxHeartbeats 4000000
/-! DLb: how plain data lies in the abstract heap; the readings. -/
namespace DL
open PySem PySem.Spec PyProof.Rows L2

abbrev Fg := PySem.W.Frag
abbrev Sg := L2.St
mutual
inductive Rp (K : Fg) (G : Hp) : V → D → Prop
  | non : Rp K G .non .none
  | bl (b : Bool) : Rp K G (.bl b) (.bool b)
  | int (i : Int) : Rp K G (.int i) (.int i)
  | str (x : Str) : Rp K G (.str x) (.str x)
  | lst {a : Addr} {xs : List V} {ds : List D} : G a = some (.lst xs) → RpAll K G xs ds → Rp K G (.ref a) (.list ds)
  | tup {a : Addr} {xs : List V} {ds : List D} : SqT K G a xs → RpAll K G xs ds → Rp K G (.ref a) (.tuple ds)
inductive RpAll (K : Fg) (G : Hp) : List V → List D → Prop
  | nil : RpAll K G [] []
  | cons {v : V} {vs : List V} {d : D} {ds : List D} : Rp K G v d → RpAll K G vs ds → RpAll K G (v :: vs) (d :: ds)
end
section
variable {K : Fg} {G G' H H' : Hp}
theorem sqT_mono (s : Same G G') {a : Addr} {xs : List V} (h : SqT K G a xs) : SqT K G' a xs := by
  rcases h with (h | ⟨o, h⟩) | h
  · exact .inl (.inl (s _ _ h))
  · exact .inl (.inr ⟨o, s _ _ h⟩)
  · exact .inr h
theorem sqL_mono (s : Same G G') {a : Addr} {xs : List V} (h : SqL K G a xs) : SqL K G' a xs := s.seq h
mutual
theorem Rp.mono (s : Same G G') : ∀ {v : V} {d : D}, Rp K G v d → Rp K G' v d
  | _, _, .non => .non
  | _, _, .bl b => .bl b
  | _, _, .int i => .int i
  | _, _, .str x => .str x
  | _, _, .lst h r => .lst (s _ _ h) (RpAll.mono s r)
  | _, _, .tup h r => .tup (sqT_mono s h) (RpAll.mono s r)
theorem RpAll.mono (s : Same G G') : ∀ {vs : List V} {ds : List D}, RpAll K G vs ds → RpAll K G' vs ds
  | _, _, .nil => .nil
  | _, _, .cons r t => .cons (Rp.mono s r) (RpAll.mono s t)
end
mutual
theorem Rp.dp : ∀ {v : V} {d : D}, Rp K G v d → Dp K G v d
  | _, _, .non => .non
  | _, _, .bl b => .bl b
  | _, _, .int i => .int i
  | _, _, .str x => .str x
  | _, _, .lst h r => .lst (SqL.of h) (RpAll.dp r)
  | _, _, .tup h r => .tup h (RpAll.dp r)
theorem RpAll.dp : ∀ {vs : List V} {ds : List D}, RpAll K G vs ds → DpAll K G vs ds
  | _, _, .nil => .nil
  | _, _, .cons r t => .cons (Rp.dp r) (RpAll.dp t)
end
theorem RpAll.length : ∀ {vs : List V} {ds : List D}, RpAll K G vs ds → vs.length = ds.length
  | _, _, .nil => rfl
  | _, _, .cons _ t => by simp [RpAll.length t]
theorem RpAll.append : ∀ {vs ws : List V} {ds es : List D}, RpAll K G vs ds → RpAll K G ws es → RpAll K G (vs ++ ws) (ds ++ es)
  | _, _, _, _, .nil, s => s
  | _, _, _, _, .cons r t, s => .cons r (RpAll.append t s)
theorem RpAll.one {v : V} {d : D} (r : Rp K G v d) : RpAll K G [v] [d] := .cons r .nil
theorem RpAll.get : ∀ {vs : List V} {ds : List D} {i : Nat} {d : D}, RpAll K G vs ds → ds[i]? = some d → ∃ v, vs[i]? = some v ∧ Rp K G v d
  | _, _, _, _, .nil, e => by simp at e
  | _, _, 0, _, .cons r _, e => by simp at e; subst e; exact ⟨_, rfl, r⟩
  | _, _, i + 1, d, .cons _ t, e => by
    obtain ⟨v, h1, h2⟩ := RpAll.get (i := i) (d := d) t (by simpa using e)
    exact ⟨v, by simpa using h1, h2⟩
theorem RpAll.getV : ∀ {vs : List V} {ds : List D} {i : Nat} {v : V}, RpAll K G vs ds → vs[i]? = some v → ∃ d, ds[i]? = some d ∧ Rp K G v d
  | _, _, _, _, .nil, e => by simp at e
  | _, _, 0, _, .cons r _, e => by simp at e; subst e; exact ⟨_, rfl, r⟩
  | _, _, i + 1, v, .cons _ t, e => by
    obtain ⟨d, h1, h2⟩ := RpAll.getV (i := i) (v := v) t (by simpa using e)
    exact ⟨d, by simpa using h1, h2⟩
theorem RpAll.set {x : V} {d : D} (r : Rp K G x d) : ∀ {vs : List V} {ds : List D} (i : Nat), RpAll K G vs ds → RpAll K G (vs.set i x) (ds.set i d)
  | _, _, _, .nil => .nil
  | _, _, 0, .cons _ t => .cons r t
  | _, _, i + 1, .cons q t => .cons q (RpAll.set r i t)
theorem RpAll.take : ∀ {vs : List V} {ds : List D} (n : Nat), RpAll K G vs ds → RpAll K G (vs.take n) (ds.take n)
  | _, _, 0, _ => by simp; exact .nil
  | _, _, _ + 1, .nil => .nil
  | _, _, n + 1, .cons r t => .cons r (RpAll.take n t)
theorem RpAll.drop : ∀ {vs : List V} {ds : List D} (n : Nat), RpAll K G vs ds → RpAll K G (vs.drop n) (ds.drop n)
  | _, _, 0, r => r
  | _, _, _ + 1, .nil => .nil
  | _, _, n + 1, .cons _ t => RpAll.drop n t
theorem RpAll.reverse : ∀ {vs : List V} {ds : List D}, RpAll K G vs ds → RpAll K G vs.reverse ds.reverse
  | _, _, .nil => .nil
  | _, _, .cons r t => by rw [List.reverse_cons, List.reverse_cons]; exact (RpAll.reverse t).append (.one r)
theorem RpAll.rep {vs : List V} {ds : List D} (h : RpAll K G vs ds) : ∀ k : Nat, RpAll K G (List.replicate k vs).flatten (List.replicate k ds).flatten
  | 0 => .nil
  | k + 1 => by rw [List.replicate_succ, List.replicate_succ, List.flatten_cons, List.flatten_cons]; exact h.append (RpAll.rep h k)
theorem RpAll.ints : ∀ {vs : List V} {ns : List Int}, RpAll K G vs (ns.map PyData.int) → vs = ns.map V.int
  | _, [], h => by cases h; rfl
  | _, n :: ns, h => by
    cases h with
    | cons r t => cases r; rw [RpAll.ints t]; rfl
theorem RpAll.ofInts : ∀ ns : List Int, RpAll K G (ns.map V.int) (ns.map PyData.int)
  | [] => .nil
  | n :: ns => .cons (.int n) (RpAll.ofInts ns)
theorem RpAll.bools : ∀ {vs : List V} {bs : List Bool}, RpAll K G vs (bs.map PyData.bool) → vs = bs.map V.bl
  | _, [], h => by cases h; rfl
  | _, n :: ns, h => by
    cases h with
    | cons r t => cases r; rw [RpAll.bools t]; rfl

theorem RpAll.perm : ∀ {xs ys : List V}, ys.Perm xs → ∀ {ds : List D}, RpAll K G xs ds → ∃ es, es.Perm ds ∧ RpAll K G ys es := by
  intro xs ys p
  induction p with
  | nil => intro ds h; exact ⟨ds, .refl _, h⟩
  | cons x p ih =>
    intro ds h
    cases h with
    | cons r t =>
      obtain ⟨es, p', h'⟩ := ih t
      exact ⟨_ :: es, p'.cons _, .cons r h'⟩
  | swap x y l =>
    intro ds h
    cases h with
    | cons r t =>
      cases t with
      | cons r2 t =>
        exact ⟨_, .swap _ _ _, .cons r2 (.cons r t)⟩
  | trans p1 p2 ih1 ih2 =>
    intro ds h
    obtain ⟨es, p', h'⟩ := ih2 h
    obtain ⟨fs, p'', h''⟩ := ih1 h'
    exact ⟨fs, p''.trans p', h''⟩
theorem RpAll.zip : ∀ {xs : List V} {ds : List D}, RpAll K G xs ds → ∀ z ∈ xs.zip ds, Rp K G z.1 z.2
  | _, _, .nil, z, h => by cases h
  | _, _, .cons r t, z, h => by
    rcases List.mem_cons.mp h with rfl | h
    · exact r
    · exact RpAll.zip t z h
theorem RpAll.ofEach {xs : List V} {ds : List D} (h : RpAll K G xs ds) : ∀ {ys : List V} {es : List D}, PySem.W.EachIs (fun v d => ∃ x ∈ xs.zip ds, x = (v, d)) ys es → RpAll K G ys es
  | _, _, .nil => .nil
  | _, _, .cons ⟨x, hx, e⟩ t => by
    subst e
    exact .cons (h.zip _ hx) (RpAll.ofEach h t)
/-- how a thing lies here: as data that stays, or as a list that may change later -/
inductive Now (K : Fg) (G H : Hp) : V → D → Prop
  | rp {v : V} {d : D} : Rp K G v d → Now K G H v d
  | cell {a : Addr} {xs : List V} {ds : List D} : H a = some (.lst xs) → RpAll K G xs ds → Now K G H (.ref a) (.list ds)
theorem Now.list (s : Same G H) {v : V} {ds : List D} (h : Now K G H v (.list ds)) : ∃ a xs, v = .ref a ∧ H a = some (.lst xs) ∧ RpAll K G xs ds := by
  cases h with
  | rp h => cases h with | lst h r => exact ⟨_, _, rfl, s _ _ h, r⟩
  | cell h r => exact ⟨_, _, rfl, h, r⟩
theorem Now.tup (s : Same G H) {v : V} {ds : List D} (h : Now K G H v (.tuple ds)) : ∃ a xs, v = .ref a ∧ SqT K H a xs ∧ RpAll K G xs ds ∧ SqT K G a xs := by
  cases h with
  | rp h => cases h with | tup h r => exact ⟨_, _, rfl, sqT_mono s h, r, h⟩
theorem Now.int {v : V} {i : Int} (h : Now K G H v (.int i)) : v = .int i := by cases h with | rp h => cases h; rfl
theorem Now.bool {v : V} {b : Bool} (h : Now K G H v (.bool b)) : v = .bl b := by cases h with | rp h => cases h; rfl
theorem Now.str {v : V} {x : Str} (h : Now K G H v (.str x)) : v = .str x := by cases h with | rp h => cases h; rfl
theorem Now.none {v : V} (h : Now K G H v .none) : v = .non := by cases h with | rp h => cases h; rfl
theorem Now.dp (s : Same G H) {v : V} {d : D} (h : Now K G H v d) : Dp K H v d := by
  cases h with
  | rp h => exact (h.mono s).dp
  | cell h r => exact .lst (SqL.of h) (r.mono s).dp
end

/-! ### the ghost state -/
structure Gh (K : Fg) (B : Nat → Option Addr) (Fr G : Hp) (env : En) (σ : Sg) (H : Hp) : Prop where
  gs : Same G H
  fs : Same Fr H
  dj : ∀ a o, G a = some o → Fr a = none
  len : env.length = σ.length
  val : ∀ (i : Nat) (d : D), env[i]? = some (.val d) → ∃ v, σ[i]? = some (some v) ∧ Rp K G v d
  scr : ∀ (i : Nat) (ns : List Int), env[i]? = some (.scr ns) → ∃ a, σ[i]? = some (some (.ref a)) ∧ SqL K G a (ns.map V.int)
  own : ∀ (i : Nat) (m : Md) (ds : List D), env[i]? = some (.own m ds) → ∃ a xs, σ[i]? = some (some (.ref a)) ∧ H a = some (.lst xs) ∧ RpAll K G xs ds ∧ G a = none ∧ Fr a = none ∧ (m ≠ .free → B i = some a)
  ap : ∀ (i j : Nat) (m n : Md) (ds es : List D) (a : Addr), env[i]? = some (.own m ds) → env[j]? = some (.own n es) → σ[i]? = some (some (.ref a)) → σ[j]? = some (some (.ref a)) → i = j

/-- a is no owned list of env -/
def Apart (env : En) (σ : Sg) (a : Addr) : Prop := ∀ (i : Nat) (m : Md) (ds : List D), env[i]? = some (.own m ds) → σ[i]? ≠ some (some (.ref a))
/-- a result -/
def Rr (K : Fg) (Fr G : Hp) (env : En) (σ : Sg) (H : Hp) (v : V) : Sl → Prop
  | .val d => Rp K G v d
  | .scr ns => ∃ a, v = .ref a ∧ SqL K G a (ns.map V.int)
  | .own m ds => m = .free ∧ ∃ a xs, v = .ref a ∧ H a = some (.lst xs) ∧ RpAll K G xs ds ∧ G a = none ∧ Fr a = none ∧ Apart env σ a
  | .no => False

section
variable {K : Fg} {B : Nat → Option Addr} {Fr G G' : Hp} {env : En} {σ : Sg} {H H' : Hp}
theorem same_upd {H : Hp} {p : Addr} {o : HO} (h : H p = none) : Same H (upd H p o) := fun b x e => by
  rw [upd_ne (ne_of_none e h)]
  exact e
theorem Same.none {A B : Hp} (s : Same A B) {a : Addr} (h : B a = none) : A a = none := s.free h
/-- a new object that nothing knows of yet -/
theorem Gh.alloc (g : Gh K B Fr G env σ H) {p : Addr} {o : HO} (h : H p = none) : Gh K B Fr G env σ (upd H p o) where
  gs := g.gs.trans (same_upd h)
  fs := g.fs.trans (same_upd h)
  dj := g.dj
  len := g.len
  val := g.val
  scr := g.scr
  own := fun i m ds e => by
    obtain ⟨a, xs, h1, h2, h3⟩ := g.own i m ds e
    exact ⟨a, xs, h1, same_upd h _ _ h2, h3⟩
  ap := g.ap
/-- a known object joins what stays -/
theorem Gh.join (g : Gh K B Fr G env σ H) {p : Addr} {o : HO} (h : H p = some o) (hg : G p = none) (hf : Fr p = none) (ha : Apart env σ p) : Gh K B Fr (upd G p o) env σ H where
  gs := fun a x e => by
    by_cases he : a = p
    · subst he; rw [upd_same] at e; cases e; exact h
    · rw [upd_ne he] at e; exact g.gs a x e
  fs := g.fs
  dj := fun a x e => by
    by_cases he : a = p
    · subst he; exact hf
    · rw [upd_ne he] at e; exact g.dj a x e
  len := g.len
  val := fun i d e => by
    obtain ⟨v, h1, h2⟩ := g.val i d e
    exact ⟨v, h1, h2.mono (same_upd hg)⟩
  scr := fun i ns e => by
    obtain ⟨a, h1, h2⟩ := g.scr i ns e
    exact ⟨a, h1, sqL_mono (same_upd hg) h2⟩
  own := fun i m ds e => by
    obtain ⟨a, xs, h1, h2, h3, h4, h5, h6⟩ := g.own i m ds e
    refine ⟨a, xs, h1, h2, h3.mono (same_upd hg), ?_, h5, h6⟩
    rw [upd_ne (fun z => ha i m ds e (by rw [h1, z]))]
    exact h4
  ap := g.ap
theorem Gh.fresh (g : Gh K B Fr G env σ H) {p : Addr} (h : H p = none) : G p = none ∧ Fr p = none ∧ Apart env σ p :=
  ⟨Same.none g.gs h, Same.none g.fs h, fun i m ds e z => by
    obtain ⟨a, xs, h1, h2, _⟩ := g.own i m ds e
    rw [h1] at z; cases z; rw [h] at h2; cases h2⟩
/-- a new object that stays -/
theorem Gh.new (g : Gh K B Fr G env σ H) {p : Addr} {o : HO} (h : H p = none) : Gh K B Fr (upd G p o) env σ (upd H p o) ∧ Same G (upd G p o) := by
  obtain ⟨h1, h2, h3⟩ := g.fresh h
  exact ⟨(g.alloc (o := o) h).join upd_same h1 h2 h3, same_upd h1⟩
/-- a result is taken as data -/
theorem Gh.freeze (g : Gh K B Fr G env σ H) {v : V} {r : Sl} {d : D} (h : Rr K Fr G env σ H v r) (e : toD r = some d) : ∃ G', Same G G' ∧ Gh K B Fr G' env σ H ∧ Rp K G' v d := by
  cases r with
  | no => cases h
  | scr ns => cases e
  | val d' => cases e; exact ⟨G, Same.refl G, g, h⟩
  | own m ds =>
    cases e
    obtain ⟨_, a, xs, rfl, h1, h2, h3, h4, h5⟩ := h
    exact ⟨_, same_upd h3, g.join h1 h3 h4 h5, .lst upd_same (h2.mono (same_upd h3))⟩
theorem oP_some {α : Type} {o : Option α} {Q : α → Prop} (h : oP o Q) : ∃ x, o = some x ∧ Q x := by
  cases o with
  | none => cases h
  | some x => exact ⟨x, rfl, h⟩

/-- an operand -/
def Rh (K : Fg) (G : Hp) (σ : Sg) (v : V) : Hn → Prop
  | .d d => Rp K G v d
  | .var i => σ[i]? = some (some v)
theorem Rh.mono {v : V} {h : Hn} (s : Same G G') (r : Rh K G σ v h) : Rh K G' σ v h := by
  cases h with
  | d d => exact Rp.mono s r
  | var i => exact r
theorem Gh.now (g : Gh K B Fr G env σ H) {v : V} {h : Hn} {d : D} (r : Rh K G σ v h) (e : rd env h = some d) : Now K G H v d := by
  cases h with
  | d d' => cases e; exact .rp r
  | var i =>
    have r' : σ[i]? = some (some v) := r
    unfold rd at e
    simp only at e
    split at e
    · rename_i d' q
      cases e
      obtain ⟨v', h1, h2⟩ := g.val i _ q
      rw [r'] at h1; cases h1
      exact .rp h2
    · rename_i m ds q
      cases e
      obtain ⟨a, xs, h1, h2, h3, _⟩ := g.own i _ _ q
      rw [r'] at h1; cases h1
      exact .cell h2 h3
    · cases e
end

/-! ### the readings -/
section
variable (K : Fg)
def tE (w : WE) : TE := fun σ H Q => ∃ B Fr G env P, Gh K B Fr G env σ H ∧ w env P ∧
  ∀ r env' v H' G', P r env' → Same G G' → Gh K B Fr G' env' σ H' → Rr K Fr G' env' σ H' v r → Q v H'
def tD (w : WD) : TE := fun σ H Q => ∃ B Fr G env P, Gh K B Fr G env σ H ∧ w env P ∧
  ∀ d env' v H' G', P d env' → Same G G' → Gh K B Fr G' env' σ H' → Rp K G' v d → Q v H'
def tH (w : WH) : TE := fun σ H Q => ∃ B Fr G env P, Gh K B Fr G env σ H ∧ w env P ∧
  ∀ h env' v H' G', P h env' → Same G G' → Gh K B Fr G' env' σ H' → Rh K G' σ v h → Q v H'
def tW (w : WB) : TT := fun σ H Q => ∃ B Fr G env P, Gh K B Fr G env σ H ∧ w env P ∧
  ∀ k env' H' G', P k env' → Same G G' → Gh K B Fr G' env' σ H' → Q k H'
def tDs (w : En → (List D → En → Prop) → Prop) : TA := fun σ H Q => ∃ B Fr G env P, Gh K B Fr G env σ H ∧ w env P ∧
  ∀ ds env' vs H' G', P ds env' → Same G G' → Gh K B Fr G' env' σ H' → RpAll K G' vs ds → Q vs H'
/-- an argument as it stands -/
def Ra (K : Fg) (G : Hp) (σ : Sg) (v : V) : Ar → Prop
  | .val (.val d) => Rp K G v d
  | .val (.scr ns) => ∃ a, v = .ref a ∧ SqL K G a (ns.map V.int)
  | .val _ => False
  | .var i => σ[i]? = some (some v)
def RaAll (K : Fg) (G : Hp) (σ : Sg) : List V → List Ar → Prop := Paired (Ra K G σ)
def tAr (w : En → (List Ar → En → Prop) → Prop) : TA := fun σ H Q => ∃ B Fr G env P, Gh K B Fr G env σ H ∧ w env P ∧
  ∀ as env' vs H' G', P as env' → Same G G' → Gh K B Fr G' env' σ H' → RaAll K G' σ vs as → Q vs H'
def tOi (w : En → (Option Int → En → Prop) → Prop) : TO := fun σ H Q => ∃ B Fr G env P, Gh K B Fr G env σ H ∧ w env P ∧
  ∀ o env' H' G', P o env' → Same G G' → Gh K B Fr G' env' σ H' → Q o H'
def tSt (w : En → AK → Prop) : TS := fun Dn σ H => ∃ B Fr G env P, Gh K B Fr G env σ H ∧ w env P ∧
  (∀ env' σ' H' G', P.nx env' → Same G G' → Gh K B Fr G' env' σ' H' → Dn.nx σ' H') ∧
  (∀ env' σ' H' G', P.bk env' → Same G G' → Gh K B Fr G' env' σ' H' → Dn.bk σ' H') ∧
  (∀ env' σ' H' G', P.ct env' → Same G G' → Gh K B Fr G' env' σ' H' → Dn.ct σ' H') ∧
  ∀ r env' σ' v H' G', P.rt r env' → Same G G' → Gh K B Fr G' env' σ' H' → Rr K Fr G' env' σ' H' v r → Dn.rt v H'
end
section
variable {X : Cx}
theorem pe_imp {e : Expr} {t t' : TE} (h : PE X e t) (w : ∀ σ H Q, t' σ H Q → t σ H Q) : PE X e t' := ⟨fun pins s σ H Q I q => h.run pins s σ H Q I (w _ _ _ q)⟩
theorem pt_imp {e : Expr} {t t' : TT} (h : PT X e t) (w : ∀ σ H Q, t' σ H Q → t σ H Q) : PT X e t' := ⟨fun pins s σ H Q I q => h.run pins s σ H Q I (w _ _ _ q)⟩
theorem pa_imp {e : List Expr} {t t' : TA} (h : PA X e t) (w : ∀ σ H Q, t' σ H Q → t σ H Q) : PA X e t' := ⟨fun pos pins s σ H Q I q => h.run pos pins s σ H Q I (w _ _ _ q)⟩
theorem ps_imp {e : Stmt} {t t' : TS} (h : PS X e t) (w : ∀ D σ H, t' D σ H → t D σ H) : PS X e t' := ⟨fun pins s σ H D I q => h.run pins s σ H D I (w _ _ _ q)⟩
theorem pss_imp {e : List Stmt} {t t' : TS} (h : PSs X e t) (w : ∀ D σ H, t' D σ H → t D σ H) : PSs X e t' := ⟨fun pins s σ H D I q => h.run pins s σ H D I (w _ _ _ q)⟩
theorem po_imp {e : Option Expr} {t t' : TO} (h : PO X e t) (w : ∀ σ H Q, t' σ H Q → t σ H Q) : PO X e t' := ⟨fun pins s σ H Q I q => h.run pins s σ H Q I (w _ _ _ q)⟩
/-- a result taken as data -/
theorem tD_of {K : Fg} {w : WE} : ∀ σ H Q, tD K (opD w) σ H Q → tE K w σ H Q := by
  rintro σ H Q ⟨B, Fr, G, env, P, g, hw, q⟩
  refine ⟨B, Fr, G, env, _, g, hw, fun r e' v H' G' p s g' rr => ?_⟩
  obtain ⟨d, e, p⟩ := oP_some p
  obtain ⟨G2, s2, g2, r2⟩ := g'.freeze rr e
  exact q d e' v H' G2 p (s.trans s2) g2 r2
theorem tH_of {K : Fg} {w : WE} {e : E} (hv : ∀ i, e ≠ .v i) : ∀ σ H Q, tH K (opO e w) σ H Q → tE K w σ H Q := by
  rintro σ H Q ⟨B, Fr, G, env, P, g, hw, q⟩
  have hw' : w env fun r e1 => oP (toD r) fun d => P (.d d) e1 := by
    unfold opO at hw
    split at hw
    · exact absurd rfl (hv _)
    · exact hw
  refine ⟨B, Fr, G, env, _, g, hw', fun r e' v H' G' p s g' rr => ?_⟩
  obtain ⟨d, e, p⟩ := oP_some p
  obtain ⟨G2, s2, g2, r2⟩ := g'.freeze rr e
  exact q (.d d) e' v H' G2 p (s.trans s2) g2 r2
end
end DL

set_option Elab.async false
set_option linter.all false
set_option maxRecDepth 100000
set_option maxHeartbeats 4000000
/-! DLc: the operations. -/
namespace DL
open PySem PySem.Spec PyProof.Rows L2

/-- what follows an operation: the answers' readings go on -/
abbrev Go (K : Fg) (B : Nat → Option Addr) (Fr G : Hp) (env : En) (σ : Sg) (P : Sl → Prop) (Q : VK) : Prop :=
  ∀ r v H' G', P r → Same G G' → Gh K B Fr G' env σ H' → Rr K Fr G' env σ H' v r → Q v H'
section
variable {K : Fg} {B : Nat → Option Addr} {Fr G : Hp} {env : En} {σ : Sg} {H : Hp} {P : Sl → Prop} {Q : VK} {v1 v2 : V} {x y : D}
/-- a value that names nothing -/
theorem Go.val (q : Go K B Fr G env σ P Q) (g : Gh K B Fr G env σ H) {v : V} {d : D} (p : P (.val d)) (r : Rp K G v d) : Q v H := q (.val d) v H G p (Same.refl G) g r
/-- a new list -/
theorem Go.lst (q : Go K B Fr G env σ P Q) (g : Gh K B Fr G env σ H) {xs : List V} {ds : List D} (p : P (.own .free ds)) (r : RpAll K G xs ds) : ∀ a, H a = none → Q (.ref a) (upd H a (.lst xs)) := fun a h => by
  obtain ⟨h1, h2, h3⟩ := g.fresh h
  exact q (.own .free ds) _ _ G p (Same.refl G) (g.alloc h) ⟨rfl, a, xs, rfl, upd_same, r, h1, h2, h3⟩
/-- a new tuple -/
theorem Go.tup (q : Go K B Fr G env σ P Q) (g : Gh K B Fr G env σ H) {xs : List V} {ds : List D} (p : P (.val (.tuple ds))) (r : RpAll K G xs ds) : ∀ a, H a = none → Q (.ref a) (upd H a (.tup xs)) := fun a h => by
  obtain ⟨g', s⟩ := g.new (o := .tup xs) h
  exact q (.val (.tuple ds)) _ _ _ p s g' (.tup (SqT.of upd_same) (r.mono s))

/-- two operands in a row -/
theorem two_of {wa wb : WH} {W : D → D → (Sl → Prop) → Prop} {r : R2}
    (hr : ∀ {B : Nat → Option Addr} {Fr G : Hp} {env : En} {σ : Sg} {H : Hp} {P : Sl → Prop} {Q : VK} {v1 v2 : V} {x y : D}, Gh K B Fr G env σ H → Now K G H v1 x → Now K G H v2 y → W x y P → Go K B Fr G env σ P Q → r v1 v2 H Q) :
    ∀ σ H Q, tE K (fun env Q => wa env fun h1 e1 => wb e1 fun h2 e2 => oP (rd e2 h1) fun x => oP (rd e2 h2) fun y => W x y fun r => Q r e2) σ H Q → tOp r (tH K wa) (tH K wb) σ H Q := by
  rintro σ H Q ⟨B, Fr, G, env, P, g, hw, q⟩
  refine ⟨B, Fr, G, env, _, g, hw, fun h1 e1 v1 H1 G1 p1 s1 g1 r1 => ⟨B, Fr, G1, e1, _, g1, p1, fun h2 e2 v2 H2 G2 p2 s2 g2 r2 => ?_⟩⟩
  obtain ⟨x, ex, p2⟩ := oP_some p2
  obtain ⟨y, ey, p2⟩ := oP_some p2
  exact hr g2 (g2.now (r1.mono s2) ex) (g2.now r2 ey) p2 fun r v H' G' p s g' rr => q r e2 v H' G' p ((s1.trans s2).trans s) g' rr

theorem r_add (g : Gh K B Fr G env σ H) (n1 : Now K G H v1 x) (n2 : Now K G H v2 y) (h : wBin .add x y P) (q : Go K B Fr G env σ P Q) :
    (rI0 (fun i j => .int (i + j)) v1 v2 H Q) ∨ (rCat v1 v2 H Q) ∨ (rCatA K v1 v2 H Q) ∨ (∃ i j, v1 = .str i ∧ v2 = .str j ∧ i.length + j.length ≤ sizeLine ∧ Q (.str (i ++ j)) H) := by
  cases x <;> cases y <;> try exact (show False from h).elim
  · exact .inl ⟨_, _, n1.int, n2.int, q.val g h (.int _)⟩
  · obtain ⟨h1, h⟩ : _ ∧ P _ := h
    exact .inr (.inr (.inr ⟨_, _, n1.str, n2.str, h1, q.val g h (.str _)⟩))
  · obtain ⟨h1, h⟩ : _ ∧ P _ := h
    obtain ⟨a, xs, rfl, ha, ra⟩ := n1.list g.gs
    obtain ⟨b, ys, rfl, hb, rb⟩ := n2.list g.gs
    exact .inr (.inl ⟨a, b, xs, ys, rfl, rfl, ha, hb, by rw [ra.length, rb.length]; exact h1, q.lst g h (ra.append rb)⟩)
  · obtain ⟨h1, h⟩ : _ ∧ P _ := h
    obtain ⟨a, xs, rfl, ha, ra, ga⟩ := n1.tup g.gs
    obtain ⟨b, ys, rfl, hb, rb, gb⟩ := n2.tup g.gs
    refine .inr (.inr (.inl ⟨a, b, xs, ys, rfl, rfl, ha, hb, by rw [ra.length, rb.length]; exact h1, fun e => ?_, fun _ e => ?_, fun _ _ => q.tup g h (ra.append rb)⟩))
    · subst e
      cases ra
      exact q.val g h (.tup gb rb)
    · subst e
      cases rb
      rw [List.append_nil] at h
      exact q.val g h (.tup ga ra)
theorem r_sub (g : Gh K B Fr G env σ H) (n1 : Now K G H v1 x) (n2 : Now K G H v2 y) (h : wBin .sub x y P) (q : Go K B Fr G env σ P Q) : rI0 (fun i j => .int (i - j)) v1 v2 H Q := by
  cases x <;> cases y <;> try exact (show False from h).elim
  exact ⟨_, _, n1.int, n2.int, q.val g h (.int _)⟩
theorem op_mulB {X : Cx} : OpR X (binaryOp .Mult) (rI IntMulOk fun i j => .int (i * j)) := opI fun _ _ _ _ _ _ _ hc q => mul_int q hc
theorem op_fdivB {X : Cx} : OpR X (binaryOp .FloorDiv) (rI (fun _ j => j ≠ 0 ∧ j.natAbs.log2 < 9000) fun i j => .int (i.fdiv j)) := opI fun i j _ _ _ _ _ hc q => floordiv_int hc.1 q (.inl (PyProof.noPylong_of_log2 hc.2))
theorem r_mul (g : Gh K B Fr G env σ H) (n1 : Now K G H v1 x) (n2 : Now K G H v2 y) (h : wBin .mul x y P) (q : Go K B Fr G env σ P Q) :
    (rI IntMulOk (fun i j => .int (i * j)) v1 v2 H Q) ∨ (rRep v1 v2 H Q) ∨ (rRepT K v1 v2 H Q) := by
  cases x <;> cases y <;> try exact (show False from h).elim
  · obtain ⟨h1, h⟩ : _ ∧ P _ := h
    exact .inl ⟨_, _, n1.int, n2.int, h1, q.val g h (.int _)⟩
  · obtain ⟨⟨h1, h2, h3⟩, h⟩ : (_ ∧ _ ∧ _) ∧ P _ := h
    obtain ⟨a, xs, rfl, ha, ra⟩ := n1.list g.gs
    exact .inr (.inl ⟨a, _, xs, rfl, n2.int, ha, h1, h2, by rw [ra.length]; exact h3, q.lst g h (ra.rep _)⟩)
  · obtain ⟨⟨h1, h2, h3, h4⟩, h⟩ : (_ ∧ _ ∧ _ ∧ _) ∧ P _ := h
    obtain ⟨a, xs, rfl, ha, ra, ga⟩ := n1.tup g.gs
    refine .inr (.inr ⟨a, _, xs, rfl, n2.int, ha, fun e => ?_, h2, h3, by rw [ra.length]; exact h4, q.tup g h (ra.rep _)⟩)
    subst e
    cases ra
    exact h1 rfl
theorem r_fdiv (g : Gh K B Fr G env σ H) (n1 : Now K G H v1 x) (n2 : Now K G H v2 y) (h : wBin .fdiv x y P) (q : Go K B Fr G env σ P Q) : rI (fun _ j => j ≠ 0 ∧ j.natAbs.log2 < 9000) (fun i j => .int (i.fdiv j)) v1 v2 H Q := by
  cases x <;> cases y <;> try exact (show False from h).elim
  obtain ⟨h1, h⟩ : _ ∧ P _ := h
  exact ⟨_, _, n1.int, n2.int, h1, q.val g h (.int _)⟩
theorem r_mod (g : Gh K B Fr G env σ H) (n1 : Now K G H v1 x) (n2 : Now K G H v2 y) (h : wBin .mod x y P) (q : Go K B Fr G env σ P Q) : rI (fun _ j => j ≠ 0) (fun i j => .int (i.fmod j)) v1 v2 H Q := by
  cases x <;> cases y <;> try exact (show False from h).elim
  obtain ⟨h1, h⟩ : _ ∧ P _ := h
  exact ⟨_, _, n1.int, n2.int, h1, q.val g h (.int _)⟩
theorem r_pow (g : Gh K B Fr G env σ H) (n1 : Now K G H v1 x) (n2 : Now K G H v2 y) (h : wBin .pow x y P) (q : Go K B Fr G env σ P Q) : rI CPow (fun i j => .int (i ^ j.toNat)) v1 v2 H Q := by
  cases x <;> cases y <;> try exact (show False from h).elim
  obtain ⟨h1, h⟩ : _ ∧ P _ := h
  exact ⟨_, _, n1.int, n2.int, h1, q.val g h (.int _)⟩
end
def opB : Bop → Operator
  | .add => .Add
  | .sub => .Sub
  | .mul => .Mult
  | .fdiv => .FloorDiv
  | .mod => .Mod
  | .pow => .Pow
section
variable {X : Cx} {a b c : Expr} {wa wb wc : WH} {pos : Pos}
theorem pe_bin (o : Bop) (ha : PE X a (tH X.K wa)) (hb : PE X b (tH X.K wb)) : PE X (.BinOp a (opB o) b pos) (tE X.K (mBin o wa wb)) := by
  cases o
  · exact pe_imp (pe_op (op_add.or (op_cat.or (op_catA.or op_add_str))) ha hb) (two_of r_add)
  · exact pe_imp (pe_op op_sub ha hb) (two_of r_sub)
  · exact pe_imp (pe_op (op_mulB.or (op_rep.or op_repT)) ha hb) (two_of r_mul)
  · exact pe_imp (pe_op op_fdivB ha hb) (two_of r_fdiv)
  · exact pe_imp (pe_op op_modN ha hb) (two_of r_mod)
  · exact pe_imp (pe_op op_pow ha hb) (two_of r_pow)
end
/-! ### comparisons -/
abbrev GoB (K : Fg) (B : Nat → Option Addr) (Fr G : Hp) (env : En) (σ : Sg) (P : Bool → Prop) (H : Hp) (Q : VK) : Prop := ∀ k, P k → Q (.bl k) H
section
variable {K : Fg} {B : Nat → Option Addr} {Fr G : Hp} {env : En} {σ : Sg} {H : Hp} {P : Bool → Prop} {Q : VK} {v1 v2 : V} {x y : D}
theorem flat_now (n : Now K G H v1 x) (h : flatD x = true) : flatV v1 = true := by
  cases n with
  | rp n => cases n <;> first | rfl | cases h
  | cell _ _ => cases h
theorem flat_all : ∀ {xs : List V} {ds : List D}, RpAll K G xs ds → ds.all flatD = true → xs.all flatV = true
  | _, _, .nil, _ => rfl
  | _, _, .cons r t, h => by
    rw [List.all_cons, Bool.and_eq_true] at h
    rw [List.all_cons, Bool.and_eq_true]
    exact ⟨flat_now (H := G) (.rp r) h.1, flat_all t h.2⟩
theorem eqV_flat (r1 : Rp K G v1 x) (n2 : Now K G H v2 y) (h1 : flatD x = true) (h2 : flatD y = true) : eqV v1 v2 = PyData.eqv x y := by
  cases r1 <;> first
    | (cases h1; done)
    | (cases n2 with
       | rp r2 => cases r2 <;> first
          | (cases h2; done)
          | (unfold PyData.eqv; rfl)
       | cell _ _ => cases h2)
theorem any_flat : ∀ {xs : List V} {ds : List D}, RpAll K G xs ds → ds.all flatD = true → Now K G H v2 y → flatD y = true → inV v2 xs = ds.any fun z => PyData.eqv z y
  | _, _, .nil, _, _, _ => rfl
  | _, _, .cons r t, h, n, hy => by
    rw [List.all_cons, Bool.and_eq_true] at h
    unfold inV
    rw [List.any_cons, List.any_cons, eqV_flat r n h.1 hy]
    have e := any_flat t h.2 n hy
    unfold inV at e
    rw [e]
theorem c_eq (s : Same G H) (n1 : Now K G H v1 x) (n2 : Now K G H v2 y) (h : wCmp .eq x y P) (q : ∀ k, P k → Q (.bl k) H) : rEqD K v1 v2 H Q := by
  obtain ⟨⟨h1, h2⟩, h⟩ : (_ ∧ _) ∧ P _ := h
  exact ⟨x, y, n1.dp s, n2.dp s, h1, h2, q _ h⟩
theorem c_ne (s : Same G H) (n1 : Now K G H v1 x) (n2 : Now K G H v2 y) (h : wCmp .ne x y P) (q : ∀ k, P k → Q (.bl k) H) : rNeD K v1 v2 H Q := by
  obtain ⟨⟨h1, h2⟩, h⟩ : (_ ∧ _) ∧ P _ := h
  exact ⟨x, y, n1.dp s, n2.dp s, h1, h2, q _ h⟩
theorem c_lt (s : Same G H) (n1 : Now K G H v1 x) (n2 : Now K G H v2 y) (h : wCmp .lt x y P) (q : ∀ k, P k → Q (.bl k) H) : rI0 (fun i j => .bl (decide (i < j))) v1 v2 H Q ∨ rLtD K v1 v2 H Q := by
  cases x <;> cases y <;> try exact (show False from h).elim
  · exact .inl ⟨_, _, n1.int, n2.int, q _ h⟩
  · obtain ⟨⟨h1, h2⟩, h⟩ := h
    obtain ⟨k, e, h⟩ := oP_some h
    exact .inr ⟨_, _, k, n1.dp s, n2.dp s, h1, h2, e, q _ h⟩
theorem c_le (s : Same G H) (n1 : Now K G H v1 x) (n2 : Now K G H v2 y) (h : wCmp .le x y P) (q : ∀ k, P k → Q (.bl k) H) : rI0 (fun i j => .bl (decide (i ≤ j))) v1 v2 H Q := by
  cases x <;> cases y <;> try exact (show False from h).elim
  exact ⟨_, _, n1.int, n2.int, q _ h⟩
theorem c_gt (s : Same G H) (n1 : Now K G H v1 x) (n2 : Now K G H v2 y) (h : wCmp .gt x y P) (q : ∀ k, P k → Q (.bl k) H) : rI0 (fun i j => .bl (decide (j < i))) v1 v2 H Q := by
  cases x <;> cases y <;> try exact (show False from h).elim
  exact ⟨_, _, n1.int, n2.int, q _ h⟩
theorem c_ge (s : Same G H) (n1 : Now K G H v1 x) (n2 : Now K G H v2 y) (h : wCmp .ge x y P) (q : ∀ k, P k → Q (.bl k) H) : rI0 (fun i j => .bl (decide (j ≤ i))) v1 v2 H Q := by
  cases x <;> cases y <;> try exact (show False from h).elim
  exact ⟨_, _, n1.int, n2.int, q _ h⟩
theorem c_in (s : Same G H) (n1 : Now K G H v1 x) (n2 : Now K G H v2 y) (h : wCmp .inn x y P) (q : ∀ k, P k → Q (.bl k) H) : rInD K v1 v2 H Q ∨ rIn K false v1 v2 H Q := by
  cases y <;> try exact (show False from h).elim
  · obtain ⟨⟨h1, h2⟩, h⟩ : (_ ∧ _) ∧ P _ := h
    exact .inl ⟨x, _, n1.dp s, n2.dp s, h1, h2, q _ h⟩
  · obtain ⟨⟨h1, h2⟩, h⟩ : (_ ∧ _) ∧ P _ := h
    obtain ⟨b, ys, rfl, hb, rb, _⟩ := n2.tup s
    refine .inr ⟨b, ys, rfl, .inr hb, flat_now n1 h1, flat_all rb h2, q _ ?_⟩
    show P (inV v1 ys)
    rw [any_flat rb h2 n1 h1]
    exact h
theorem c_nin (s : Same G H) (n1 : Now K G H v1 x) (n2 : Now K G H v2 y) (h : wCmp .nin x y P) (q : ∀ k, P k → Q (.bl k) H) : rNotInD K v1 v2 H Q ∨ rIn K true v1 v2 H Q := by
  cases y <;> try exact (show False from h).elim
  · obtain ⟨⟨h1, h2⟩, h⟩ : (_ ∧ _) ∧ P _ := h
    exact .inl ⟨x, _, n1.dp s, n2.dp s, h1, h2, q _ h⟩
  · obtain ⟨⟨h1, h2⟩, h⟩ : (_ ∧ _) ∧ P _ := h
    obtain ⟨b, ys, rfl, hb, rb, _⟩ := n2.tup s
    refine .inr ⟨b, ys, rfl, .inr hb, flat_now n1 h1, flat_all rb h2, q _ ?_⟩
    show P (!inV v1 ys)
    rw [any_flat rb h2 n1 h1]
    exact h
end
def opC : Cop → CmpOp
  | .eq => .Eq
  | .ne => .NotEq
  | .lt => .Lt
  | .le => .LtE
  | .gt => .Gt
  | .ge => .GtE
  | .inn => .In
  | .nin => .NotIn
/-- every comparison's rule -/
theorem cop_r {X : Cx} (hu : X.A.units + 65 < cLine) (o : Cop) : ∃ r : R2, OpR X (compareOp (opC o)) r ∧
    ∀ {G : Hp} {H : Hp} {P : Bool → Prop} {Q : VK} {v1 v2 : V} {x y : D}, Same G H → Now X.K G H v1 x → Now X.K G H v2 y → wCmp o x y P → (∀ k, P k → Q (.bl k) H) → r v1 v2 H Q := by
  cases o
  · exact ⟨_, op_eqD (by omega), c_eq⟩
  · exact ⟨_, op_neD (by omega), c_ne⟩
  · exact ⟨_, op_lt.or (op_ltD (by omega)), c_lt⟩
  · exact ⟨_, op_le, c_le⟩
  · exact ⟨_, op_gt, c_gt⟩
  · exact ⟨_, op_ge, c_ge⟩
  · exact ⟨_, (op_inD hu).or op_in_seq, c_in⟩
  · exact ⟨_, (op_notInD hu).or op_notIn_seq, c_nin⟩
section
variable {X : Cx} {a b c : Expr} {wa wb wc : WH} {pos : Pos}
/-- a truth, as a value -/
def tWv (K : Fg) (w : WB) : TE := fun σ H Q => ∃ B Fr G env P, Gh K B Fr G env σ H ∧ w env P ∧ ∀ k env' H' G', P k env' → Same G G' → Gh K B Fr G' env' σ H' → Q (.bl k) H'
theorem wv_e {K : Fg} {w : WB} : ∀ σ H Q, tE K (vB w) σ H Q → tWv K w σ H Q := by
  rintro σ H Q ⟨B, Fr, G, env, P, g, hw, q⟩
  exact ⟨B, Fr, G, env, _, g, hw, fun k e1 H1 G1 p s g1 => q (.val (.bool k)) e1 (.bl k) H1 G1 p s g1 (.bl k)⟩
theorem wv_w {K : Fg} {w : WB} : ∀ σ H (Q : Bool → Hp → Prop), tW K w σ H Q → tWv K w σ H fun v H1 => ∃ k, v = .bl k ∧ Q k H1 := by
  rintro σ H Q ⟨B, Fr, G, env, P, g, hw, q⟩
  exact ⟨B, Fr, G, env, _, g, hw, fun k e1 H1 G1 p s g1 => ⟨k, rfl, q k e1 H1 G1 p s g1⟩⟩
theorem cmp_of {K : Fg} {o : Cop} {r : R2} {wa wb : WH} (hr : ∀ {G : Hp} {H : Hp} {P : Bool → Prop} {Q : VK} {v1 v2 : V} {x y : D}, Same G H → Now K G H v1 x → Now K G H v2 y → wCmp o x y P → (∀ k, P k → Q (.bl k) H) → r v1 v2 H Q) :
    ∀ σ H Q, tWv K (mCmp o wa wb) σ H Q → tOp r (tH K wa) (tH K wb) σ H Q := by
  rintro σ H Q ⟨B, Fr, G, env, P, g, hw, q⟩
  refine ⟨B, Fr, G, env, _, g, hw, fun h1 e1 v1 H1 G1 p1 s1 g1 r1 => ⟨B, Fr, G1, e1, _, g1, p1, fun h2 e2 v2 H2 G2 p2 s2 g2 r2 => ?_⟩⟩
  obtain ⟨x, ex, p2⟩ := oP_some p2
  obtain ⟨y, ey, p2⟩ := oP_some p2
  exact hr g2.gs (g2.now (r1.mono s2) ex) (g2.now r2 ey) p2 fun k p => q k e2 H2 G2 p (s1.trans s2) g2
theorem chain_of {K : Fg} {o o' : Cop} {r r' : R2} {wa wb wc : WH}
    (hr : ∀ {G : Hp} {H : Hp} {P : Bool → Prop} {Q : VK} {v1 v2 : V} {x y : D}, Same G H → Now K G H v1 x → Now K G H v2 y → wCmp o x y P → (∀ k, P k → Q (.bl k) H) → r v1 v2 H Q)
    (hr' : ∀ {G : Hp} {H : Hp} {P : Bool → Prop} {Q : VK} {v1 v2 : V} {x y : D}, Same G H → Now K G H v1 x → Now K G H v2 y → wCmp o' x y P → (∀ k, P k → Q (.bl k) H) → r' v1 v2 H Q) :
    ∀ σ H Q, tWv K (mChain o o' wa wb wc) σ H Q → tChain r r' (tH K wa) (tH K wb) (tH K wc) σ H Q := by
  rintro σ H Q ⟨B, Fr, G, env, P, g, hw, q⟩
  refine ⟨B, Fr, G, env, _, g, hw, fun h1 e1 v1 H1 G1 p1 s1 g1 r1 => ⟨B, Fr, G1, e1, _, g1, p1, fun h2 e2 v2 H2 G2 p2 s2 g2 r2 => ?_⟩⟩
  obtain ⟨x, ex, p2⟩ := oP_some p2
  obtain ⟨y, ey, p2⟩ := oP_some p2
  refine hr g2.gs (g2.now (r1.mono s2) ex) (g2.now r2 ey) p2 fun k p => ⟨k, rfl, ?_⟩
  cases k with
  | false => exact q _ _ _ _ (brB_f p) (s1.trans s2) g2
  | true =>
    replace p := brB_t p
    refine ⟨B, Fr, G2, e2, _, g2, p, fun h3 e3 v3 H3 G3 p3 s3 g3 r3 => ?_⟩
    obtain ⟨y', ey', p3⟩ := oP_some p3
    obtain ⟨z, ez, p3⟩ := oP_some p3
    exact hr' g3.gs (g3.now (r2.mono s3) ey') (g3.now r3 ez) p3 fun k p => q k e3 H3 G3 p ((s1.trans s2).trans s3) g3
theorem chain3_of {K : Fg} {o o' o2 : Cop} {r r' r2 : R2} {wa wb wc wd : WH}
    (hr : ∀ {G : Hp} {H : Hp} {P : Bool → Prop} {Q : VK} {v1 v2 : V} {x y : D}, Same G H → Now K G H v1 x → Now K G H v2 y → wCmp o x y P → (∀ k, P k → Q (.bl k) H) → r v1 v2 H Q)
    (hr' : ∀ {G : Hp} {H : Hp} {P : Bool → Prop} {Q : VK} {v1 v2 : V} {x y : D}, Same G H → Now K G H v1 x → Now K G H v2 y → wCmp o' x y P → (∀ k, P k → Q (.bl k) H) → r' v1 v2 H Q)
    (hr2 : ∀ {G : Hp} {H : Hp} {P : Bool → Prop} {Q : VK} {v1 v2 : V} {x y : D}, Same G H → Now K G H v1 x → Now K G H v2 y → wCmp o2 x y P → (∀ k, P k → Q (.bl k) H) → r2 v1 v2 H Q) :
    ∀ σ H Q, tWv K (mChain3 o o' o2 wa wb wc wd) σ H Q → tChain3 r r' r2 (tH K wa) (tH K wb) (tH K wc) (tH K wd) σ H Q := by
  rintro σ H Q ⟨B, Fr, G, env, P, g, hw, q⟩
  refine ⟨B, Fr, G, env, _, g, hw, fun h1 e1 v1 H1 G1 p1 s1 g1 r1 => ⟨B, Fr, G1, e1, _, g1, p1, fun h2 e2 v2 H2 G2 p2 s2 g2 rr2 => ?_⟩⟩
  obtain ⟨x, ex, p2⟩ := oP_some p2
  obtain ⟨y, ey, p2⟩ := oP_some p2
  refine hr g2.gs (g2.now (r1.mono s2) ex) (g2.now rr2 ey) p2 fun k p => ⟨k, rfl, ?_⟩
  cases k with
  | false => exact q _ _ _ _ (brB_f p) (s1.trans s2) g2
  | true =>
    replace p := brB_t p
    refine ⟨B, Fr, G2, e2, _, g2, p, fun h3 e3 v3 H3 G3 p3 s3 g3 r3 => ?_⟩
    obtain ⟨y', ey', p3⟩ := oP_some p3
    obtain ⟨z, ez, p3⟩ := oP_some p3
    refine hr' g3.gs (g3.now (rr2.mono s3) ey') (g3.now r3 ez) p3 fun k p => ⟨k, rfl, ?_⟩
    cases k with
    | false => exact q _ _ _ _ (brB_f p) ((s1.trans s2).trans s3) g3
    | true =>
      replace p := brB_t p
      refine ⟨B, Fr, G3, e3, _, g3, p, fun h4 e4 v4 H4 G4 p4 s4 g4 r4 => ?_⟩
      obtain ⟨z', ez', p4⟩ := oP_some p4
      obtain ⟨w, ew, p4⟩ := oP_some p4
      exact hr2 g4.gs (g4.now (r3.mono s4) ez') (g4.now r4 ew) p4 fun k p => q k e4 H4 G4 p (((s1.trans s2).trans s3).trans s4) g4
theorem pe_chain3D {d : Expr} {wd : WH} (hu : X.A.units + 65 < cLine) (o o' o2 : Cop) (ha : PE X a (tH X.K wa)) (hb : PE X b (tH X.K wb)) (hc : PE X c (tH X.K wc)) (hd : PE X d (tH X.K wd)) (hm : lastMarks [opC o, opC o', opC o2] [b, c, d] = false) : PE X (.Compare a [opC o, opC o', opC o2] [b, c, d] pos) (tWv X.K (mChain3 o o' o2 wa wb wc wd)) := by
  obtain ⟨r, ho, hr⟩ := cop_r hu o
  obtain ⟨r', ho', hr'⟩ := cop_r hu o'
  obtain ⟨r2, ho2, hr2⟩ := cop_r hu o2
  exact pe_imp (pe_chain3 ho ho' ho2 ha hb hc hd hm) (chain3_of hr hr' hr2)
theorem pt_chain3D {d : Expr} {wd : WH} (hu : X.A.units + 65 < cLine) (o o' o2 : Cop) (ha : PE X a (tH X.K wa)) (hb : PE X b (tH X.K wb)) (hc : PE X c (tH X.K wc)) (hd : PE X d (tH X.K wd)) (hm : lastMarks [opC o, opC o', opC o2] [b, c, d] = false) : PT X (.Compare a [opC o, opC o', opC o2] [b, c, d] pos) (tW X.K (mChain3 o o' o2 wa wb wc wd)) := by
  obtain ⟨r, ho, hr⟩ := cop_r hu o
  obtain ⟨r', ho', hr'⟩ := cop_r hu o'
  obtain ⟨r2, ho2, hr2⟩ := cop_r hu o2
  exact pt_imp (pt_chain3 ho ho' ho2 ha hb hc hd hm) fun σ H Q h => chain3_of hr hr' hr2 σ H _ (wv_w σ H Q h)
theorem pe_cmpD (hu : X.A.units + 65 < cLine) (o : Cop) (ha : PE X a (tH X.K wa)) (hb : PE X b (tH X.K wb)) (hm : behindInMarks (opC o) b = false) : PE X (.Compare a [opC o] [b] pos) (tWv X.K (mCmp o wa wb)) := by
  obtain ⟨r, ho, hr⟩ := cop_r hu o
  exact pe_imp (pe_cmpR ho ha hb hm) (cmp_of hr)
theorem pt_cmpD (hu : X.A.units + 65 < cLine) (o : Cop) (ha : PE X a (tH X.K wa)) (hb : PE X b (tH X.K wb)) (hm : behindInMarks (opC o) b = false) : PT X (.Compare a [opC o] [b] pos) (tW X.K (mCmp o wa wb)) := by
  obtain ⟨r, ho, hr⟩ := cop_r hu o
  exact pt_imp (pt_cmpR ho ha hb hm) fun σ H Q h => cmp_of hr σ H _ (wv_w σ H Q h)
theorem pe_chainD (hu : X.A.units + 65 < cLine) (o o' : Cop) (ha : PE X a (tH X.K wa)) (hb : PE X b (tH X.K wb)) (hc : PE X c (tH X.K wc)) (hm : lastMarks [opC o, opC o'] [b, c] = false) : PE X (.Compare a [opC o, opC o'] [b, c] pos) (tWv X.K (mChain o o' wa wb wc)) := by
  obtain ⟨r, ho, hr⟩ := cop_r hu o
  obtain ⟨r', ho', hr'⟩ := cop_r hu o'
  exact pe_imp (pe_chain ho ho' ha hb hc hm) (chain_of hr hr')
theorem pt_chainD (hu : X.A.units + 65 < cLine) (o o' : Cop) (ha : PE X a (tH X.K wa)) (hb : PE X b (tH X.K wb)) (hc : PE X c (tH X.K wc)) (hm : lastMarks [opC o, opC o'] [b, c] = false) : PT X (.Compare a [opC o, opC o'] [b, c] pos) (tW X.K (mChain o o' wa wb wc)) := by
  obtain ⟨r, ho, hr⟩ := cop_r hu o
  obtain ⟨r', ho', hr'⟩ := cop_r hu o'
  exact pt_imp (pt_chain ho ho' ha hb hc hm) fun σ H Q h => chain_of hr hr' σ H _ (wv_w σ H Q h)
/-! ### is None, True, False -/
def dV : D → V
  | .none => .non
  | .bool b => .bl b
  | _ => .non
def rIs (n : Bool) (d : D) : R2 := fun x y H Q => match d with
  | .none => y = .non ∧ Q (.bl (n != decide (x = .non))) H
  | .bool c => ∃ b, x = .bl b ∧ y = .bl c ∧ Q (.bl (n != decide (b = c))) H
  | _ => False
theorem op_isB {d : D} : OpR X (compareOp .Is) (rIs false d) := by
  intro pins s σ H x y v u Q I rx ry h
  cases d <;> try exact (show False from h).elim
  · obtain ⟨e, q⟩ := h
    exact op_isN pins s σ H x y v u Q I rx ry ⟨e, by simpa using q⟩
  · obtain ⟨b, e1, e2, q⟩ := h
    exact op_isBl pins s σ H x y v u Q I rx ry ⟨b, _, e1, e2, by simpa using q⟩
theorem op_isnB {d : D} : OpR X (compareOp .IsNot) (rIs true d) := by
  intro pins s σ H x y v u Q I rx ry h
  cases d <;> try exact (show False from h).elim
  · obtain ⟨e, q⟩ := h
    exact op_notN pins s σ H x y v u Q I rx ry ⟨e, by simpa using q⟩
  · obtain ⟨b, e1, e2, q⟩ := h
    exact op_notBl pins s σ H x y v u Q I rx ry ⟨b, _, e1, e2, by simpa using q⟩
def opI (n : Bool) : CmpOp := if n then .IsNot else .Is
theorem op_isD {n : Bool} {d : D} : OpR X (compareOp (opI n)) (rIs n d) := by
  cases n
  · exact op_isB
  · exact op_isnB
theorem now_non {K : Fg} {G H : Hp} {v : V} {x : D} (h : Now K G H v x) : decide (v = .non) = (match x with | .none => true | _ => false) := by
  cases h with
  | rp h => cases h <;> first | rfl | simp
  | cell _ _ => simp
theorem is_of {K : Fg} {n : Bool} {d : D} {wa : WH} {tb : TE} (hb : ∀ σ H Q, Q (dV d) H → tb σ H Q) : ∀ σ H Q, tWv K (mIs n wa d) σ H Q → tOp (rIs n d) (tH K wa) tb σ H Q := by
  rintro σ H Q ⟨B, Fr, G, env, P, g, hw, q⟩
  refine ⟨B, Fr, G, env, _, g, hw, fun h1 e1 v1 H1 G1 p1 s1 g1 r1 => hb _ _ _ ?_⟩
  obtain ⟨x, ex, p1⟩ := oP_some p1
  have nw := g1.now r1 ex
  have fin : ∀ k, P (n != k) e1 → Q (.bl (n != k)) H1 := fun k p => q _ _ _ _ p s1 g1
  cases d <;> try (cases x <;> exact (show False from p1).elim)
  · refine ⟨rfl, fin _ ?_⟩
    rw [now_non nw]
    cases x <;> exact p1
  · cases x <;> try exact (show False from p1).elim
    exact ⟨_, nw.bool, rfl, fin _ p1⟩
theorem pe_isD {n : Bool} {d : D} {tb : TE} (ha : PE X a (tH X.K wa)) (hb : PE X b tb) (ht : ∀ σ H Q, Q (dV d) H → tb σ H Q) (hm : behindInMarks (opI n) b = false) : PE X (.Compare a [opI n] [b] pos) (tWv X.K (mIs n wa d)) :=
  pe_imp (pe_cmpR op_isD ha hb hm) (is_of ht)
theorem pt_isD {n : Bool} {d : D} {tb : TE} (ha : PE X a (tH X.K wa)) (hb : PE X b tb) (ht : ∀ σ H Q, Q (dV d) H → tb σ H Q) (hm : behindInMarks (opI n) b = false) : PT X (.Compare a [opI n] [b] pos) (tW X.K (mIs n wa d)) :=
  pt_imp (pt_cmpR op_isD ha hb hm) fun σ H Q h => is_of ht σ H _ (wv_w σ H Q h)
end
end DL

set_option Elab.async false
set_option linter.all false
set_option maxRecDepth 100000
set_option maxHeartbeats 4000000
/-! DLd: the other forms of expressions. -/
namespace DL
open PySem PySem.Spec PyProof.Rows L2
section
variable {K : Fg} {B : Nat → Option Addr} {Fr G : Hp} {env : En} {σ : Sg} {H : Hp} {P : Sl → Prop} {Q : VK} {v v1 v2 : V} {x y : D}
/-! ### truth -/
theorem empty_of {xs : List V} {ds : List D} (r : RpAll K G xs ds) : (!ds.isEmpty) = !xs.isEmpty := by cases r <;> rfl
theorem tru_now {P : Bool → Prop} (s : Same G H) (n : Now K G H v x) (h : tru x P) : ∃ k, TruV K v H k ∧ P k := by
  cases x with
  | none => cases n.none; exact ⟨false, rfl, h⟩
  | bool b => cases n.bool; exact ⟨b, rfl, h⟩
  | int i => cases n.int; exact ⟨_, rfl, h⟩
  | str z => cases n.str; exact ⟨_, ⟨h.1, rfl⟩, h.2⟩
  | list ds =>
    obtain ⟨a, xs, rfl, ha, ra⟩ := n.list s
    have h' : P (!ds.isEmpty) := h
    exact ⟨_, .inl ⟨xs, SqL.of ha, rfl⟩, by rw [← empty_of ra]; exact h'⟩
  | tuple ds =>
    obtain ⟨a, xs, rfl, ha, ra, _⟩ := n.tup s
    have h' : P (!ds.isEmpty) := h
    exact ⟨_, .inr (.inl ⟨xs, ha, rfl⟩), by rw [← empty_of ra]; exact h'⟩
  | dict _ => exact (show False from h).elim
theorem tru_rp {P : Bool → Prop} (s : Same G H) (n : Rp K G v x) (h : tru x P) : ∃ k, TruV K v H k ∧ P k := tru_now s (.rp n) h
end
section
variable {X : Cx} {a b c : Expr} {pos : Pos} {rest : List Expr}
theorem pe_negD {wa : WD} (ha : PE X a (tD X.K wa)) : PE X (.UnaryOp .USub a pos) (tE X.K (mNeg wa)) := by
  refine pe_imp (pe_un un_neg ha) ?_
  rintro σ H Q ⟨B, Fr, G, env, P, g, hw, q⟩
  refine ⟨B, Fr, G, env, _, g, hw, fun x e1 v H1 G1 p s g1 r => ?_⟩
  obtain ⟨i, e, p⟩ := oP_some p
  cases x <;> cases e
  cases r
  exact ⟨i, rfl, q _ _ _ _ _ p s g1 (.int _)⟩
theorem pe_andD {wa : WD} {wb : WE} (ha : PE X a (tD X.K wa)) (hb : PE X (.BoolOp .And (b :: rest) pos) (tE X.K wb)) : PE X (.BoolOp .And (a :: b :: rest) pos) (tE X.K (mAnd wa wb)) := by
  refine pe_imp (pe_andT ha hb) ?_
  rintro σ H Q ⟨B, Fr, G, env, P, g, hw, q⟩
  refine ⟨B, Fr, G, env, _, g, hw, fun x e1 v H1 G1 p s g1 r => ?_⟩
  obtain ⟨k, t, p⟩ := tru_rp g1.gs r p
  refine ⟨k, t, ?_⟩
  cases k with
  | true => exact ⟨B, Fr, G1, e1, _, g1, (brB_t p), fun r e2 v H2 G2 p s2 g2 rr => q r e2 v H2 G2 p (s.trans s2) g2 rr⟩
  | false => exact q _ _ _ _ _ (brB_f p) s g1 r
theorem pe_orD {wa : WD} {wb : WE} (ha : PE X a (tD X.K wa)) (hb : PE X (.BoolOp .Or (b :: rest) pos) (tE X.K wb)) : PE X (.BoolOp .Or (a :: b :: rest) pos) (tE X.K (mOr wa wb)) := by
  refine pe_imp (pe_orT ha hb) ?_
  rintro σ H Q ⟨B, Fr, G, env, P, g, hw, q⟩
  refine ⟨B, Fr, G, env, _, g, hw, fun x e1 v H1 G1 p s g1 r => ?_⟩
  obtain ⟨k, t, p⟩ := tru_rp g1.gs r p
  refine ⟨k, t, ?_⟩
  cases k with
  | false => exact ⟨B, Fr, G1, e1, _, g1, (brB_f p), fun r e2 v H2 G2 p s2 g2 rr => q r e2 v H2 G2 p (s.trans s2) g2 rr⟩
  | true => exact q _ _ _ _ _ (brB_t p) s g1 r
theorem pe_notD {wa : WH} (ha : PE X a (tH X.K wa)) : PE X (.UnaryOp .Not a pos) (tE X.K (mNot wa)) := by
  refine pe_imp (pe_notT ha) ?_
  rintro σ H Q ⟨B, Fr, G, env, P, g, hw, q⟩
  refine ⟨B, Fr, G, env, _, g, hw, fun h e1 v H1 G1 p s g1 r => ?_⟩
  obtain ⟨x, e, p⟩ := oP_some p
  obtain ⟨k, t, p⟩ := tru_now g1.gs (g1.now r e) p
  exact ⟨k, t, q _ _ _ _ _ p s g1 (.bl _)⟩
theorem pe_ifD {t : WB} {wa wb : WE} (hc : PT X c (tW X.K t)) (ha : PE X a (tE X.K wa)) (hb : PE X b (tE X.K wb)) : PE X (.IfExp c a b pos) (tE X.K (mIf t wa wb)) := by
  refine pe_imp (pe_ifExp hc ha hb) ?_
  rintro σ H Q ⟨B, Fr, G, env, P, g, hw, q⟩
  refine ⟨B, Fr, G, env, _, g, hw, fun k e1 H1 G1 p s g1 => ?_⟩
  cases k with
  | true => exact ⟨B, Fr, G1, e1, _, g1, (brB_t p), fun r e2 v H2 G2 p s2 g2 rr => q r e2 v H2 G2 p (s.trans s2) g2 rr⟩
  | false => exact ⟨B, Fr, G1, e1, _, g1, (brB_f p), fun r e2 v H2 G2 p s2 g2 rr => q r e2 v H2 G2 p (s.trans s2) g2 rr⟩
/-! ### tests -/
theorem pt_ofv {w : WB} (h : PE X a (tWv X.K w)) (he : ∀ whole, isTrue a X.env whole = (do let v ← whole; standAt a.pos; holding [v] (truthy v))) : PT X a (tW X.K w) := by
  refine pt_imp (pt_truth h he) ?_
  rintro σ H Q ⟨B, Fr, G, env, P, g, hw, q⟩
  exact ⟨B, Fr, G, env, _, g, hw, fun k e1 H1 G1 p s g1 => ⟨k, rfl, q k e1 H1 G1 p s g1⟩⟩
theorem pt_ofe {w : WE} (h : PE X a (tE X.K w)) (he : ∀ whole, isTrue a X.env whole = (do let v ← whole; standAt a.pos; holding [v] (truthy v))) : PT X a (tW X.K (bV w)) := by
  refine pt_imp (pt_truth h he) ?_
  rintro σ H Q ⟨B, Fr, G, env, P, g, hw, q⟩
  refine ⟨B, Fr, G, env, _, g, hw, fun r e1 v H1 G1 p s g1 rr => ?_⟩
  obtain ⟨d, e, p⟩ := oP_some p
  obtain ⟨G2, s2, g2, r2⟩ := g1.freeze rr e
  obtain ⟨k, t, p⟩ := tru_rp g2.gs r2 p
  exact ⟨k, t, q k e1 H1 G2 p (s.trans s2) g2⟩
theorem pt_notD {t : WB} (ha : PT X a (tW X.K t)) : PT X (.UnaryOp .Not a pos) (tW X.K fun env Q => t env fun k e1 => Q (!k) e1) := by
  refine pt_imp (pt_not ha) ?_
  rintro σ H Q ⟨B, Fr, G, env, P, g, hw, q⟩
  exact ⟨B, Fr, G, env, _, g, hw, fun k e1 H1 G1 p s g1 => q _ _ _ _ p s g1⟩
theorem pw_imp {e : Expr} {t t' : TT} (h : PW X e t) (w : ∀ σ H Q, t' σ H Q → t σ H Q) : PW X e t' := ⟨fun wh pins s σ H Q I q => h.run wh pins s σ H Q I (w _ _ _ q)⟩
theorem pw_andD {t u : WB} (ha : PT X a (tW X.K t)) (hb : PW X (.BoolOp .And (b :: rest) pos) (tW X.K u)) :
    PW X (.BoolOp .And (a :: b :: rest) pos) (tW X.K fun env Q => t env fun k e1 => brB k (u e1 Q) (Q false e1)) := by
  refine pw_imp (pw_and ha hb) ?_
  rintro σ H Q ⟨B, Fr, G, env, P, g, hw, q⟩
  refine ⟨B, Fr, G, env, _, g, hw, fun k e1 H1 G1 p s g1 => ?_⟩
  cases k with
  | true => exact ⟨B, Fr, G1, e1, _, g1, (brB_t p), fun k e2 H2 G2 p s2 g2 => q k e2 H2 G2 p (s.trans s2) g2⟩
  | false => exact q _ _ _ _ (brB_f p) s g1
theorem pw_orD {t u : WB} (ha : PT X a (tW X.K t)) (hb : PW X (.BoolOp .Or (b :: rest) pos) (tW X.K u)) :
    PW X (.BoolOp .Or (a :: b :: rest) pos) (tW X.K fun env Q => t env fun k e1 => brB k (Q true e1) (u e1 Q)) := by
  refine pw_imp (pw_or ha hb) ?_
  rintro σ H Q ⟨B, Fr, G, env, P, g, hw, q⟩
  refine ⟨B, Fr, G, env, _, g, hw, fun k e1 H1 G1 p s g1 => ?_⟩
  cases k with
  | true => exact q _ _ _ _ (brB_t p) s g1
  | false => exact ⟨B, Fr, G1, e1, _, g1, (brB_f p), fun k e2 H2 G2 p s2 g2 => q k e2 H2 G2 p (s.trans s2) g2⟩
/-! ### displays -/
theorem notStar_each {e : Expr} (h : ∀ x p, e ≠ .Starred x p) (es : List Expr) (env : Env) : starEach (e :: es) env = (false, eval e env) :: starEach es env := by
  cases e <;> first
    | exact absurd rfl (h _ _)
    | rfl
theorem pa_nilD : PA X [] (tDs X.K fun env Q => Q [] env) := by
  refine pa_imp pa_nil ?_
  rintro σ H Q ⟨B, Fr, G, env, P, g, hw, q⟩
  exact q _ _ _ _ _ hw (Same.refl G) g .nil
theorem pa_consD {es : List Expr} {w : WD} {ws : En → (List D → En → Prop) → Prop} (hn : ∀ x p, a ≠ .Starred x p) (ha : PE X a (tD X.K w)) (hb : PA X es (tDs X.K ws)) :
    PA X (a :: es) (tDs X.K fun env Q => w env fun d e1 => ws e1 fun ds e2 => Q (d :: ds) e2) := by
  refine pa_imp (pa_cons ha hb (notStar_each hn es X.env)) ?_
  rintro σ H Q ⟨B, Fr, G, env, P, g, hw, q⟩
  refine ⟨B, Fr, G, env, _, g, hw, fun d e1 v H1 G1 p s g1 r => ⟨B, Fr, G1, e1, _, g1, p, fun ds e2 vs H2 G2 p s2 g2 rs => ?_⟩⟩
  exact q _ _ _ _ _ p (s.trans s2) g2 (.cons (r.mono s2) rs)
theorem pe_tupD {es : List Expr} {ws : En → (List D → En → Prop) → Prop} {k : Nat} (h : PA X es (tDs X.K ws)) : PE X (.Tuple es k pos) (tE X.K (mTup ws)) := by
  refine pe_imp (pe_tup h) ?_
  rintro σ H Q ⟨B, Fr, G, env, P, g, hw, q⟩
  refine ⟨B, Fr, G, env, _, g, hw, fun ds e1 vs H1 G1 p s g1 r => ⟨by rw [r.length]; exact p.1, fun l hl => ?_⟩⟩
  exact Go.tup (P := fun r => P r e1) (fun r v H' G' p s' g' rr => q r e1 v H' G' p (s.trans s') g' rr) g1 p.2 r l hl
theorem pe_lstD {es : List Expr} {ws : En → (List D → En → Prop) → Prop} (h : PA X es (tDs X.K ws)) : PE X (.List es pos) (tE X.K (mLst ws)) := by
  refine pe_imp (pe_lst h) ?_
  rintro σ H Q ⟨B, Fr, G, env, P, g, hw, q⟩
  refine ⟨B, Fr, G, env, _, g, hw, fun ds e1 vs H1 G1 p s g1 r => ⟨by rw [r.length]; exact p.1, fun l hl => ?_⟩⟩
  exact Go.lst (P := fun r => P r e1) (fun r v H' G' p s' g' rr => q r e1 v H' G' p (s.trans s') g' rr) g1 p.2 r l hl
/-! ### subscripts -/
theorem ix_of {K : Fg} {B : Nat → Option Addr} {Fr G : Hp} {env : En} {σ : Sg} {H : Hp} {P : Sl → Prop} {Q : VK} {v1 v2 : V} {x y : D} (g : Gh K B Fr G env σ H) (n1 : Now K G H v1 x) (n2 : Rp K G v2 y) (h : wIx x y P) (q : Go K B Fr G env σ P Q) : rIx K v1 v2 H Q := by
  cases x <;> cases y <;> try exact (show False from h).elim
  · obtain ⟨d, e, h⟩ := oP_some h
    obtain ⟨a, xs, rfl, ha, ra⟩ := n1.list g.gs
    cases n2
    unfold atI at e
    rw [← ra.length] at e
    obtain ⟨j, ej, e⟩ := Option.bind_eq_some_iff.mp e
    obtain ⟨v, ev, rv⟩ := ra.get e
    exact .inl ⟨a, xs, _, v, rfl, rfl, SqL.of ha, by unfold atI; rw [ej]; exact ev, q.val g h rv⟩
  · obtain ⟨d, e, h⟩ := oP_some h
    obtain ⟨a, xs, rfl, ha, ra, _⟩ := n1.tup g.gs
    cases n2
    unfold atI at e
    rw [← ra.length] at e
    obtain ⟨j, ej, e⟩ := Option.bind_eq_some_iff.mp e
    obtain ⟨v, ev, rv⟩ := ra.get e
    exact .inr (.inl ⟨a, xs, _, v, rfl, rfl, ha, by unfold atI; rw [ej]; exact ev, q.val g h rv⟩)
theorem pe_ixD {wa : WH} {wb : WD} (ha : PE X a (tH X.K wa)) (hb : PE X b (tD X.K wb)) (hs : PlainIx b) : PE X (.Subscript a b pos) (tE X.K (mIx wa wb)) := by
  refine pe_imp (pe_ix ix_seq ha hb hs) ?_
  rintro σ H Q ⟨B, Fr, G, env, P, g, hw, q⟩
  refine ⟨B, Fr, G, env, _, g, hw, fun h1 e1 v1 H1 G1 p1 s1 g1 r1 => ⟨B, Fr, G1, e1, _, g1, p1, fun d2 e2 v2 H2 G2 p2 s2 g2 r2 => ?_⟩⟩
  obtain ⟨x, ex, p2⟩ := oP_some p2
  exact ix_of (P := fun r => P r e2) g2 (g2.now (r1.mono s2) ex) r2 (stp_get p2) fun r v H' G' p s g' rr => q r e2 v H' G' p ((s1.trans s2).trans s) g' rr
theorem po_nonD : PO X none (tOi X.K fun env Q => Q none env) := by
  refine po_imp po_none ?_
  rintro σ H Q ⟨B, Fr, G, env, P, g, hw, q⟩
  exact q _ _ _ _ hw (Same.refl G) g
theorem po_somD {w : WD} (ha : PE X a (tD X.K w)) : PO X (some a) (tOi X.K fun env Q => w env fun d e1 => oP (intD d) fun i => Q (some i) e1) := by
  refine po_imp (po_some ha) ?_
  rintro σ H Q ⟨B, Fr, G, env, P, g, hw, q⟩
  refine ⟨B, Fr, G, env, _, g, hw, fun d e1 v H1 G1 p s g1 r => ?_⟩
  obtain ⟨i, e, p⟩ := oP_some p
  cases d <;> cases e
  cases r
  exact ⟨i, rfl, q _ _ _ _ p s g1⟩
theorem RpAll.cut {K : Fg} {G : Hp} {xs : List V} {ds : List D} (r : RpAll K G xs ds) (lo hi : Option Int) : RpAll K G (cutV xs lo hi) (cutD ds lo hi) := by
  unfold cutV cutD
  rw [r.length]
  exact (r.drop _).take _
theorem cut_all {ds : List D} {lo hi : Option Int} (h : HT.sIx ds.length 0 lo = 0 ∧ HT.sIx ds.length ds.length hi = ds.length) : cutD ds lo hi = ds := by
  unfold cutD
  rw [h.1, h.2]
  simp
theorem sl_of {K : Fg} {B : Nat → Option Addr} {Fr G : Hp} {env : En} {σ : Sg} {H : Hp} {P : Sl → Prop} {Q : VK} {v1 : V} {x : D} {lo hi : Option Int} (g : Gh K B Fr G env σ H) (n1 : Now K G H v1 x) (h : wSl x lo hi P) (q : Go K B Fr G env σ P Q) :
    rSlL K v1 lo hi H Q ∨ rSlA K v1 lo hi H Q := by
  cases x <;> try exact (show False from h).elim
  · obtain ⟨a, xs, rfl, ha, ra⟩ := n1.list g.gs
    exact .inl ⟨a, xs, rfl, SqL.of ha, q.lst g h (ra.cut lo hi)⟩
  · obtain ⟨a, xs, rfl, ha, ra, ga⟩ := n1.tup g.gs
    refine .inr ⟨a, xs, rfl, ha, fun e => ?_, fun _ => q.tup g h (ra.cut lo hi)⟩
    rw [ra.length] at e
    have h' : P (.val (.tuple (cutD _ lo hi))) := h
    rw [cut_all e] at h'
    exact q.val g h' (.tup ga ra)
theorem pe_slD {wa : WH} {wl wh : En → (Option Int → En → Prop) → Prop} {lo hi : Option Expr} {p2 : Pos} (ha : PE X a (tH X.K wa)) (hl : PO X lo (tOi X.K wl)) (hu : PO X hi (tOi X.K wh)) :
    PE X (.Subscript a (.Slice lo hi none p2) pos) (tE X.K (mSl wa wl wh)) := by
  refine pe_imp (pe_slice (sl_list.or sl_tupA) ha hl hu) ?_
  rintro σ H Q ⟨B, Fr, G, env, P, g, hw, q⟩
  refine ⟨B, Fr, G, env, _, g, hw, fun h1 e1 v1 H1 G1 p1 s1 g1 r1 => ⟨B, Fr, G1, e1, _, g1, p1, fun l e2 H2 G2 p2 s2 g2 => ⟨B, Fr, G2, e2, _, g2, p2, fun u e3 H3 G3 p3 s3 g3 => ?_⟩⟩⟩
  obtain ⟨x, ex, p3⟩ := oP_some p3
  exact sl_of (P := fun r => P r e3) g3 (g3.now ((r1.mono s2).mono s3) ex) p3 fun r v H' G' p s g' rr => q r e3 v H' G' p (((s1.trans s2).trans s3).trans s) g' rr
theorem pe_revD {wa : WH} {k : Nat} {p1 p2 p3 : Pos} (ha : PE X a (tH X.K wa)) : PE X (.Subscript a (.Slice none none (some (.UnaryOp .USub (.Constant (.int 1) k p1) p2)) p3) pos) (tE X.K (mRev wa)) := by
  refine pe_imp (pe_revL ha) ?_
  rintro σ H Q ⟨B, Fr, G, env, P, g, hw, q⟩
  refine ⟨B, Fr, G, env, _, g, hw, fun h1 e1 v1 H1 G1 p1 s1 g1 r1 => ?_⟩
  obtain ⟨x, ex, p⟩ := oP_some p1
  have n := g1.now r1 ex
  cases x <;> try exact (show False from p).elim
  obtain ⟨a, xs, rfl, ha, ra⟩ := n.list g1.gs
  exact ⟨a, xs, rfl, SqL.of ha, Go.lst (P := fun r => P r e1) (fun r v H' G' p s' g' rr => q r e1 v H' G' p (s1.trans s') g' rr) g1 p ra.reverse⟩
end
/-! ### built-in functions -/
section
variable {K : Fg} {B : Nat → Option Addr} {Fr G : Hp} {env : En} {σ : Sg} {H : Hp} {P : Sl → Prop} {Q : VK} {v v1 v2 : V} {x y : D}
def biS : Bi → Str
  | .len => "len"
  | .abs => "abs"
  | .int => "int"
  | .max2 => "max"
  | .min2 => "min"
  | .max1 => "max"
  | .min1 => "min"
  | .sum => "sum"
  | .all => "all"
  | .any => "any"
  | .list => "list"
  | .tuple => "tuple"
  | .sorted => "sorted"
  | .str => "str"
/-- what a call of the built-in with one argument is -/
structure Bi1Ok (X : Cx) (b : Bi) (r : List V → Hp → VK → Prop) : Prop where
  go : ∀ {B : Nat → Option Addr} {Fr G : Hp} {env : En} {σ : Sg} {H : Hp} {P : Sl → Prop} {Q : VK} {v : V} {x : D}, Gh X.K B Fr G env σ H → Now X.K G H v x → wBi1 b x P → Go X.K B Fr G env σ P Q → r [v] H Q
  scr : b = .list → ∀ {B : Nat → Option Addr} {Fr G : Hp} {env : En} {σ : Sg} {H : Hp} {P : Sl → Prop} {Q : VK} {a : Addr} {ns : List Int}, Gh X.K B Fr G env σ H → SqL X.K G a (ns.map V.int) → P (.own .free (ns.map PyData.int)) → Go X.K B Fr G env σ P Q → r [.ref a] H Q
theorem len_ok {X : Cx} : Bi1Ok X .len (fun xs H Q => ∃ x n, xs = [x] ∧ LenV X.K x H n ∧ Q (.int n) H) where
  go := fun {B Fr G env σ H P Q v x} g n h q => by
    cases x <;> try exact (show False from h).elim
    · cases n.str
      exact ⟨_, _, rfl, ⟨h.1, rfl⟩, q.val g h.2 (.int _)⟩
    · obtain ⟨a, xs, rfl, ha, ra⟩ := n.list g.gs
      exact ⟨_, _, rfl, .inl ⟨xs, SqL.of ha, rfl⟩, by rw [ra.length]; exact q.val g h (.int _)⟩
    · obtain ⟨a, xs, rfl, ha, ra, _⟩ := n.tup g.gs
      exact ⟨_, _, rfl, .inr ⟨xs, ha, rfl⟩, by rw [ra.length]; exact q.val g h (.int _)⟩
  scr := fun e => nomatch e
theorem abs_ok {X : Cx} : Bi1Ok X .abs (fun xs H Q => ∃ i, xs = [.int i] ∧ Q (.int (if i < 0 then -i else i)) H) where
  go := fun {B Fr G env σ H P Q v x} g n h q => by
    cases x <;> try exact (show False from h).elim
    cases n.int
    exact ⟨_, rfl, q.val g h (.int _)⟩
  scr := fun e => nomatch e
theorem int_ok {X : Cx} : Bi1Ok X .int (fun xs H Q => (∃ i, xs = [.int i] ∧ Q (.int i) H) ∨ ∃ k, xs = [.bl k] ∧ Q (.int (if k then 1 else 0)) H) where
  go := fun {B Fr G env σ H P Q v x} g n h q => by
    cases x <;> try exact (show False from h).elim
    · cases n.bool
      exact .inr ⟨_, rfl, q.val g h (.int _)⟩
    · cases n.int
      exact .inl ⟨_, rfl, q.val g h (.int _)⟩
  scr := fun e => nomatch e
theorem best_of {K : Fg} {B : Nat → Option Addr} {Fr G : Hp} {env : En} {σ : Sg} {H : Hp} {P : Sl → Prop} {Q : VK} {f : D → List D → D} {a : Addr} {xs : List V} {ds : List D} (g : Gh K B Fr G env σ H) (ha : SqL K H a xs ∨ SqT K H a xs) (ra : RpAll K G xs ds) (h : wBest f ds fun d => P (.val d)) (q : Go K B Fr G env σ P Q) : rBest f K [.ref a] H Q := by
  cases ds with
  | nil => exact (show False from h).elim
  | cons d ds =>
    obtain ⟨hp, h⟩ := h
    refine ⟨a, xs, d, ds, rfl, ha, (ra.mono g.gs).dp, hp, fun i v e hv he em => ?_⟩
    obtain ⟨v', hv', re⟩ := ra.get he
    rw [hv] at hv'
    cases hv'
    exact q.val g h (em ▸ re)
theorem max1_ok {X : Cx} : Bi1Ok X .max1 (fun vs H Q => rMax X.K vs H Q ∨ rBest PySem.W.maxD X.K vs H Q) where
  go := fun {B Fr G env σ H P Q v x} g n h q => by
    cases x <;> try exact (show False from h).elim
    · rcases h with ⟨ns, rfl, h0, h⟩ | h
      · obtain ⟨a, xs, rfl, ha, ra⟩ := n.list g.gs
        cases ra.ints
        exact .inl ⟨a, ns, rfl, SqL.of ha, h0, fun m h1 h2 => q.val g (h m h1 h2) (.int _)⟩
      · obtain ⟨a, xs, rfl, ha, ra⟩ := n.list g.gs
        exact .inr (best_of g (.inl (SqL.of ha)) ra h q)
    · obtain ⟨a, xs, rfl, ha, ra, _⟩ := n.tup g.gs
      exact .inr (best_of g (.inr ha) ra h q)
  scr := fun e => nomatch e
theorem min1_ok {X : Cx} : Bi1Ok X .min1 (fun vs H Q => rMin X.K vs H Q ∨ rBest PySem.W.minD X.K vs H Q) where
  go := fun {B Fr G env σ H P Q v x} g n h q => by
    cases x <;> try exact (show False from h).elim
    · rcases h with ⟨ns, rfl, h0, h⟩ | h
      · obtain ⟨a, xs, rfl, ha, ra⟩ := n.list g.gs
        cases ra.ints
        exact .inl ⟨a, ns, rfl, SqL.of ha, h0, fun m h1 h2 => q.val g (h m h1 h2) (.int _)⟩
      · obtain ⟨a, xs, rfl, ha, ra⟩ := n.list g.gs
        exact .inr (best_of g (.inl (SqL.of ha)) ra h q)
    · obtain ⟨a, xs, rfl, ha, ra, _⟩ := n.tup g.gs
      exact .inr (best_of g (.inr ha) ra h q)
  scr := fun e => nomatch e
theorem sum_ok {X : Cx} : Bi1Ok X .sum (rSum X.K) where
  go := fun {B Fr G env σ H P Q v x} g n h q => by
    cases x <;> try exact (show False from h).elim
    obtain ⟨ns, rfl, h⟩ := h
    obtain ⟨a, xs, rfl, ha, ra⟩ := n.list g.gs
    cases ra.ints
    exact ⟨a, ns, rfl, SqL.of ha, q.val g h (.int _)⟩
  scr := fun e => nomatch e
theorem all_ok {X : Cx} : Bi1Ok X .all (rAll X.K) where
  go := fun {B Fr G env σ H P Q v x} g n h q => by
    cases x <;> try exact (show False from h).elim
    obtain ⟨ns, rfl, h⟩ := h
    obtain ⟨a, xs, rfl, ha, ra⟩ := n.list g.gs
    cases ra.bools
    exact ⟨a, ns, rfl, SqL.of ha, q.val g h (.bl _)⟩
  scr := fun e => nomatch e
theorem any_ok {X : Cx} : Bi1Ok X .any (rAny X.K) where
  go := fun {B Fr G env σ H P Q v x} g n h q => by
    cases x <;> try exact (show False from h).elim
    obtain ⟨ns, rfl, h⟩ := h
    obtain ⟨a, xs, rfl, ha, ra⟩ := n.list g.gs
    cases ra.bools
    exact ⟨a, ns, rfl, SqL.of ha, q.val g h (.bl _)⟩
  scr := fun e => nomatch e
theorem list_ok {X : Cx} : Bi1Ok X .list (fun xs H Q => ∃ p ys, xs = [.ref p] ∧ (SqL X.K H p ys ∨ SqT X.K H p ys) ∧ ∀ l, H l = none → Q (.ref l) (upd H l (.lst ys))) where
  go := fun {B Fr G env σ H P Q v x} g n h q => by
    cases x <;> try exact (show False from h).elim
    · obtain ⟨a, xs, rfl, ha, ra⟩ := n.list g.gs
      exact ⟨a, xs, rfl, .inl (SqL.of ha), q.lst g h ra⟩
    · obtain ⟨a, xs, rfl, ha, ra, _⟩ := n.tup g.gs
      exact ⟨a, xs, rfl, .inr ha, q.lst g h ra⟩
  scr := fun _ {B Fr G env σ H P Q a ns} g hs p q => ⟨a, _, rfl, .inl (sqL_mono g.gs hs), q.lst g p (RpAll.ofInts ns)⟩
theorem tuple_ok {X : Cx} : Bi1Ok X .tuple (fun xs H Q => ∃ p ys, xs = [.ref p] ∧ ((SqL X.K H p ys ∧ ∀ l, H l = none → Q (.ref l) (upd H l (.tup ys))) ∨ (SqT X.K H p ys ∧ Q (.ref p) H))) where
  go := fun {B Fr G env σ H P Q v x} g n h q => by
    cases x <;> try exact (show False from h).elim
    · obtain ⟨a, xs, rfl, ha, ra⟩ := n.list g.gs
      exact ⟨a, xs, rfl, .inl ⟨SqL.of ha, q.tup g h ra⟩⟩
    · obtain ⟨a, xs, rfl, ha, ra, ga⟩ := n.tup g.gs
      exact ⟨a, xs, rfl, .inr ⟨ha, q.val g h (.tup ga ra)⟩⟩
  scr := fun e => nomatch e
theorem sorted_ok {X : Cx} : Bi1Ok X .sorted (fun vs H Q => rSortedI X.K vs H Q ∨ rSortedD X.K vs H Q ∨ rSortedG X.K vs H Q) where
  go := fun {B Fr G env σ H P Q v x} g n h q => by
    cases x <;> try exact (show False from h).elim
    · obtain ⟨a, xs, rfl, ha, ra⟩ := n.list g.gs
      rcases h with ⟨ns, rfl, h⟩ | ⟨so, h⟩ | ⟨so, h⟩
      · cases ra.ints
        exact .inl ⟨a, ns, rfl, SqL.of ha, fun ns' p h1 h2 hp => q.lst g (h ns' h1 h2) (RpAll.ofInts ns') p hp⟩
      · refine .inr (.inl ⟨a, xs, _, rfl, .inl (SqL.of ha), (ra.mono g.gs).dp, so, fun ys p h1 h2 hp => ?_⟩)
        obtain ⟨es, pe, re⟩ := RpAll.perm h1 ra
        exact q.lst g (h es pe (h2 es ((re.mono g.gs).dp) fun e he => pe.mem_iff.mp he)) re p hp
      · exact .inr (.inr ⟨a, xs, _, rfl, SqL.of ha, (ra.mono g.gs).dp, so, fun ys p h1 hp => q.lst g h (ra.ofEach h1) p hp⟩)
    · obtain ⟨a, xs, rfl, ha, ra, _⟩ := n.tup g.gs
      obtain ⟨so, h⟩ := h
      refine .inr (.inl ⟨a, xs, _, rfl, .inr ha, (ra.mono g.gs).dp, so, fun ys p h1 h2 hp => ?_⟩)
      obtain ⟨es, pe, re⟩ := RpAll.perm h1 ra
      exact q.lst g (h es pe (h2 es ((re.mono g.gs).dp) fun e he => pe.mem_iff.mp he)) re p hp
  scr := fun e => nomatch e
theorem str_ok {X : Cx} : Bi1Ok X .str (fun xs H Q => ∃ i, xs = [.int i] ∧ i.natAbs.log2 < 1920 ∧ Q (.str (toString i)) H) where
  go := fun {B Fr G env σ H P Q v x} g n h q => by
    cases x <;> try exact (show False from h).elim
    cases n.int
    exact ⟨_, rfl, h.1, q.val g h.2 (.str _)⟩
  scr := fun e => nomatch e
end
section
variable {X : Cx} {a b c : Expr} {pos p : Pos}
theorem bi1_of {K : Fg} {bi : Bi} {X : Cx} (hK : X.K = K) {r : List V → Hp → VK → Prop} (ok : Bi1Ok X bi r) {wa : WH} : ∀ σ H Q, tE X.K (mBi1 bi wa) σ H Q → tCB r (tCons (tH X.K wa) tNil) σ H Q := by
  rintro σ H Q ⟨B, Fr, G, env, P, g, hw, q⟩
  refine ⟨B, Fr, G, env, _, g, hw, fun h1 e1 v1 H1 G1 p1 s1 g1 r1 => ?_⟩
  have fin : Go X.K B Fr G1 e1 σ (fun r => P r e1) Q := fun r v H' G' p s' g' rr => q r e1 v H' G' p (s1.trans s') g' rr
  have plain : (oP (rd e1 h1) fun x => wBi1 bi x fun r => P r e1) → r [v1] H1 Q := fun p => by
    obtain ⟨x, ex, p⟩ := oP_some p
    exact ok.go g1 (g1.now r1 ex) p fin
  cases es : scrAt e1 h1 with
  | none =>
    rw [es] at p1
    exact plain (by cases bi <;> exact p1)
  | some ns =>
    rw [es] at p1
    by_cases hb : bi = .list
    · subst hb
      cases h1 with
      | d d => cases es
      | var i =>
        have es' : (match e1[i]? with | some (.scr ns) => some ns | _ => none) = some ns := es
        split at es'
        · rename_i ns' eq
          cases es'
          obtain ⟨a, h1, h2⟩ := g1.scr i _ eq
          have r1' : σ[i]? = some (some v1) := r1
          rw [r1'] at h1; cases h1
          exact ok.scr rfl g1 h2 p1 fin
        · cases es'
    · exact plain (by cases bi <;> first | exact absurd rfl hb | exact p1)
theorem pa_one {wa : WH} (hn : ∀ x p, a ≠ .Starred x p) (ha : PE X a (tH X.K wa)) : PA X [a] (tCons (tH X.K wa) tNil) := pa_cons ha pa_nil (notStar_each hn [] X.env)
theorem pe_bi1 (hc : X.calm = true) (hu : X.A.units + 65 < cLine) {bi : Bi} {wa : WH} (h0 : bi ≠ .max2 ∧ bi ≠ .min2) (hg : Gl X (biS bi)) (hm : X.mg (biS bi) = none) (hn : ∀ x p, a ≠ .Starred x p) (ha : PE X a (tH X.K wa)) : PE X (.Call (.Name (biS bi) p) [a] [] pos) (tE X.K (mBi1 bi wa)) := by
  have he := notStar_each hn [] X.env
  have hpl : (backTo pos (starEach [] X.env)).any (·.1) = false := rfl
  cases bi
  · exact pe_imp (pe_callB call_len hg hm PySem.boot_len (pa_one hn ha) (by decide +kernel) (by decide +kernel) he hpl) (bi1_of rfl len_ok)
  · exact pe_imp (pe_callB call_abs hg hm (by decide +kernel) (pa_one hn ha) (by decide +kernel) (by decide +kernel) he hpl) (bi1_of rfl abs_ok)
  · exact pe_imp (pe_callTy call_int1 hg hm (by decide +kernel) (pa_one hn ha) (by decide +kernel) (by decide +kernel) he hpl) (bi1_of rfl int_ok)
  · exact absurd rfl h0.1
  · exact absurd rfl h0.2
  · exact pe_imp (pe_callB ((cr_max hc).or (cr_maxG hc hu)) hg hm (by decide +kernel) (pa_one hn ha) (by decide +kernel) (by decide +kernel) he hpl) (bi1_of rfl max1_ok)
  · exact pe_imp (pe_callB ((cr_min hc).or (cr_minG hc hu)) hg hm (by decide +kernel) (pa_one hn ha) (by decide +kernel) (by decide +kernel) he hpl) (bi1_of rfl min1_ok)
  · exact pe_imp (pe_callB (cr_sum hc) hg hm (by decide +kernel) (pa_one hn ha) (by decide +kernel) (by decide +kernel) he hpl) (bi1_of rfl sum_ok)
  · exact pe_imp (pe_callB (cr_all hc) hg hm (by decide +kernel) (pa_one hn ha) (by decide +kernel) (by decide +kernel) he hpl) (bi1_of rfl all_ok)
  · exact pe_imp (pe_callB (cr_any hc) hg hm (by decide +kernel) (pa_one hn ha) (by decide +kernel) (by decide +kernel) he hpl) (bi1_of rfl any_ok)
  · exact pe_imp (pe_callTy call_list_of hg hm (by decide +kernel) (pa_one hn ha) (by decide +kernel) (by decide +kernel) he hpl) (bi1_of rfl list_ok)
  · exact pe_imp (pe_callTy call_tuple_of hg hm (by decide +kernel) (pa_one hn ha) (by decide +kernel) (by decide +kernel) he hpl) (bi1_of rfl tuple_ok)
  · exact pe_imp (pe_callB (cr_sortedI.or ((cr_sortedD hu).or (cr_sortedG hu))) hg hm (by decide +kernel) (pa_one hn ha) (by decide +kernel) (by decide +kernel) he hpl) (bi1_of rfl sorted_ok)
  · exact pe_imp (pe_callTy call_str_int hg hm (by decide +kernel) (pa_one hn ha) (by decide +kernel) (by decide +kernel) he hpl) (bi1_of rfl str_ok)
theorem bi2_of {K : Fg} {bi : Bi} {wa wb : WH} {f : Int → Int → Int} (hf : ∀ x y (P : Sl → Prop), wBi2 bi x y P → ∃ i j, x = .int i ∧ y = .int j ∧ P (.val (.int (f i j)))) :
    ∀ σ H Q, tE K (mBi2 bi wa wb) σ H Q → tCB (fun xs H Q => ∃ i j, xs = [.int i, .int j] ∧ Q (.int (f i j)) H) (tCons (tH K wa) (tCons (tH K wb) tNil)) σ H Q := by
  rintro σ H Q ⟨B, Fr, G, env, P, g, hw, q⟩
  refine ⟨B, Fr, G, env, _, g, hw, fun h1 e1 v1 H1 G1 p1 s1 g1 r1 => ⟨B, Fr, G1, e1, _, g1, p1, fun h2 e2 v2 H2 G2 p2 s2 g2 r2 => ?_⟩⟩
  obtain ⟨x, ex, p2⟩ := oP_some p2
  obtain ⟨y, ey, p2⟩ := oP_some p2
  obtain ⟨i, j, rfl, rfl, p3⟩ := hf _ _ _ p2
  have n1 := (g2.now (r1.mono s2) ex).int
  have n2 := (g2.now r2 ey).int
  subst v1 v2
  exact ⟨i, j, rfl, q (.val (.int (f i j))) _ _ _ _ p3 (s1.trans s2) g2 (Rp.int _)⟩
theorem pe_bi2 (hc : X.calm = true) {bi : Bi} {wa wb : WH} (h0 : bi = .max2 ∨ bi = .min2) (hg : Gl X (biS bi)) (hm : X.mg (biS bi) = none) (hn : ∀ x p, a ≠ .Starred x p) (hn2 : ∀ x p, b ≠ .Starred x p) (ha : PE X a (tH X.K wa)) (hb : PE X b (tH X.K wb)) :
    PE X (.Call (.Name (biS bi) p) [a, b] [] pos) (tE X.K (mBi2 bi wa wb)) := by
  have he := notStar_each hn [b] X.env
  have hpl : (backTo pos (starEach [b] X.env)).any (·.1) = false := by rw [notStar_each hn2 [] X.env]; rfl
  have pa : PA X [a, b] (tCons (tH X.K wa) (tCons (tH X.K wb) tNil)) := pa_cons ha (pa_one hn2 hb) he
  rcases h0 with rfl | rfl
  · exact pe_imp (pe_callB (call_max2 hc) hg hm (by decide +kernel) pa (by decide +kernel) (by decide +kernel) he hpl) (bi2_of fun x y P h => by cases x <;> cases y <;> first | exact (show False from h).elim | exact ⟨_, _, rfl, rfl, h⟩)
  · exact pe_imp (pe_callB (call_min2 hc) hg hm (by decide +kernel) pa (by decide +kernel) (by decide +kernel) he hpl) (bi2_of fun x y P h => by cases x <;> cases y <;> first | exact (show False from h).elim | exact ⟨_, _, rfl, rfl, h⟩)
/-! ### isinstance -/
def tyN : Ty → String
  | .int => "int"
  | .bool => "bool"
  | .str => "str"
  | .tuple => "tuple"
  | .list => "list"
def tyS (t : Ty) : Str := tyN t
def tnD : D → String
  | .none => "NoneType"
  | .bool _ => "bool"
  | .int _ => "int"
  | .str _ => "str"
  | .list _ => "list"
  | .tuple _ => "tuple"
  | .dict _ => "dict"
theorem kit_0 : ∀ t : Ty, L2.kitB "NoneType" (tyN t) = some (isTy .none t) := by intro t; cases t <;> decide +kernel
theorem kit_1 : ∀ t : Ty, L2.kitB "bool" (tyN t) = some (isTy (.bool true) t) := by intro t; cases t <;> decide +kernel
theorem kit_2 : ∀ t : Ty, L2.kitB "int" (tyN t) = some (isTy (.int 0) t) := by intro t; cases t <;> decide +kernel
theorem kit_3 : ∀ t : Ty, L2.kitB "str" (tyN t) = some (isTy (.str ⟨#[]⟩) t) := by intro t; cases t <;> decide +kernel
theorem kit_4 : ∀ t : Ty, L2.kitB "list" (tyN t) = some (isTy (.list []) t) := by intro t; cases t <;> decide +kernel
theorem kit_5 : ∀ t : Ty, L2.kitB "tuple" (tyN t) = some (isTy (.tuple []) t) := by intro t; cases t <;> decide +kernel
theorem kit_ok (x : D) (t : Ty) (h : noDic x = true) : L2.kitB (tnD x) (tyN t) = some (isTy x t) := by
  cases x with
  | none => exact kit_0 t
  | bool b => cases t <;> exact kit_1 _
  | int i => cases t <;> exact kit_2 _
  | str z => cases t <;> exact kit_3 _
  | list ds => cases t <;> exact kit_4 _
  | tuple ds => cases t <;> exact kit_5 _
  | dict _ => cases h
theorem ty_now {K : Fg} {G H : Hp} {v : V} {x : D} (s : Same G H) (n : Now K G H v x) (h : noDic x = true) : TyX K H v (.type (tnD x)) := by
  cases x with
  | none => cases n.none; exact .base .non
  | bool b => cases n.bool; exact .base (.bl b)
  | int i => cases n.int; exact .base (.int i)
  | str z => cases n.str; exact .base (.str z)
  | list ds =>
    obtain ⟨a, xs, rfl, ha, ra⟩ := n.list s
    exact .base (.lst ha)
  | tuple ds =>
    obtain ⟨a, xs, rfl, ha, ra, _⟩ := n.tup s
    rcases ha with (ha | ⟨o, ha⟩) | ⟨o, its, k, ha, hc, _⟩
    · exact .base (.tup ha)
    · exact .fTuple ha
    · exact .kTuple ha hc
  | dict _ => cases h
theorem boot_ty (t : Ty) : bootBuiltins (tyS t) = some (.type (tyN t)) := by cases t <;> decide +kernel
theorem pe_isiD {wa : WH} {t : Ty} {p2 : Pos} (hg : Gl X "isinstance") (hm : X.mg "isinstance" = none) (hg2 : Gl X (tyS t)) (hm2 : X.mg (tyS t) = none) (hn : ∀ x p, a ≠ .Starred x p) (ha : PE X a (tH X.K wa)) :
    PE X (.Call (.Name "isinstance" p) [a, .Name (tyS t) p2] [] pos) (tWv X.K (mIsi wa t)) := by
  have he := notStar_each hn [.Name (tyS t) p2] X.env
  have hn2 : ∀ x p, Expr.Name (tyS t) p2 ≠ .Starred x p := fun x p e => nomatch e
  have hpl : (backTo pos (starEach [.Name (tyS t) p2] X.env)).any (·.1) = false := rfl
  have ht : PE X (.Name (tyS t) p2) (tC (.ty (tyN t))) := pe_bltn hg2 hm2 (boot_ty t) rfl (by cases t <;> decide +kernel) (by cases t <;> decide +kernel)
  have pa : PA X [a, .Name (tyS t) p2] (tCons (tH X.K wa) (tCons (tC (.ty (tyN t))) tNil)) := pa_cons ha (pa_cons ht pa_nil rfl) he
  refine pe_imp (pe_callB call_isi hg hm (by decide +kernel) pa (by decide +kernel) (by decide +kernel) he hpl) ?_
  rintro σ H Q ⟨B, Fr, G, env, P, g, hw, q⟩
  refine ⟨B, Fr, G, env, _, g, hw, fun h1 e1 v1 H1 G1 p1 s1 g1 r1 => ?_⟩
  obtain ⟨x, ex, hd, p1⟩ := oP_some p1
  exact ⟨v1, .ty (tyN t), _, _, isTy x t, rfl, .ty _, ty_now g1.gs (g1.now r1 ex) hd, kit_ty (kit_ok x t hd), q _ _ _ _ p1 s1 g1⟩
end
end DL

set_option Elab.async false
set_option linter.all false
set_option maxRecDepth 100000
set_option maxHeartbeats 4000000
/-! DLe: targets, what is walked, comprehensions. -/
namespace DL
open PySem PySem.Spec PyProof.Rows L2
section
variable {K : Fg} {B : Nat → Option Addr} {Fr G G' : Hp} {env : En} {σ : Sg} {H H' : Hp}
theorem set_at {α : Type} {l : List α} {i j : Nat} {x y : α} (h : (l.set i x)[j]? = some y) : (j = i ∧ y = x ∧ i < l.length) ∨ (j ≠ i ∧ l[j]? = some y) := by
  by_cases e : j = i
  · subst e
    by_cases hl : j < l.length
    · rw [List.getElem?_set_self hl] at h; cases h; exact .inl ⟨rfl, rfl, hl⟩
    · rw [List.getElem?_eq_none (by simpa using hl)] at h; cases h
  · rw [List.getElem?_set_ne (Ne.symm e)] at h
    exact .inr ⟨e, h⟩
/-- a slot is stored to: a value -/
theorem Gh.store (g : Gh K B Fr G env σ H) {i : Nat} {v : V} {r : Sl} (hr : Rr K Fr G env σ H v r) : Gh K B Fr G (env.set i r) (σ.set i (some v)) H where
  gs := g.gs
  fs := g.fs
  dj := g.dj
  len := by rw [List.length_set, List.length_set]; exact g.len
  val := fun j d e => by
    rcases set_at e with ⟨rfl, rfl, hl⟩ | ⟨ne, e⟩
    · exact ⟨v, List.getElem?_set_self (by rw [← g.len]; exact hl), hr⟩
    · rw [List.getElem?_set_ne (Ne.symm ne)]
      exact g.val j d e
  scr := fun j ns e => by
    rcases set_at e with ⟨rfl, rfl, hl⟩ | ⟨ne, e⟩
    · obtain ⟨a, rfl, h⟩ := hr
      exact ⟨a, List.getElem?_set_self (by rw [← g.len]; exact hl), h⟩
    · rw [List.getElem?_set_ne (Ne.symm ne)]
      exact g.scr j ns e
  own := fun j m ds e => by
    rcases set_at e with ⟨rfl, rfl, hl⟩ | ⟨ne, e⟩
    · obtain ⟨rfl, a, xs, rfl, h1, h2, h3, h4, _⟩ := hr
      exact ⟨a, xs, List.getElem?_set_self (by rw [← g.len]; exact hl), h1, h2, h3, h4, fun z => absurd rfl z⟩
    · rw [List.getElem?_set_ne (Ne.symm ne)]
      exact g.own j m ds e
  ap := fun j k m n ds es a e1 e2 s1 s2 => by
    rcases set_at e1 with ⟨j1, j2, hl⟩ | ⟨ne1, f1⟩
    · rcases set_at e2 with ⟨k1, _, _⟩ | ⟨ne2, f2⟩
      · rw [j1, k1]
      · subst j1
        rw [← j2] at hr
        obtain ⟨_, a', xs, hv, _, _, _, _, h5⟩ := hr
        rw [List.getElem?_set_self (by rw [← g.len]; exact hl)] at s1
        rw [List.getElem?_set_ne (Ne.symm ne2)] at s2
        rw [hv] at s1
        cases s1
        exact absurd s2 (h5 k n es f2)
    · rw [List.getElem?_set_ne (Ne.symm ne1)] at s1
      rcases set_at e2 with ⟨k1, k2, hl⟩ | ⟨ne2, f2⟩
      · subst k1
        rw [← k2] at hr
        obtain ⟨_, a', xs, hv, _, _, _, _, h5⟩ := hr
        rw [List.getElem?_set_self (by rw [← g.len]; exact hl)] at s2
        rw [hv] at s2
        cases s2
        exact absurd s1 (h5 j m ds f1)
      · rw [List.getElem?_set_ne (Ne.symm ne2)] at s2
        exact g.ap j k m n ds es a f1 f2 s1 s2
/-- slots forgotten -/
theorem Gh.fewer (g : Gh K B Fr G env σ H) {env' : En} (hl : env'.length = env.length) (h : ∀ (i : Nat) s, env'[i]? = some s → s = .no ∨ env[i]? = some s) : Gh K B Fr G env' σ H where
  gs := g.gs
  fs := g.fs
  dj := g.dj
  len := hl.trans g.len
  val := fun i d e => by rcases h i _ e with z | z; cases z; exact g.val i d z
  scr := fun i d e => by rcases h i _ e with z | z; cases z; exact g.scr i d z
  own := fun i m d e => by rcases h i _ e with z | z; cases z; exact g.own i m d z
  ap := fun i j m n ds es a e1 e2 s1 s2 => by
    rcases h i _ e1 with z | z; cases z
    rcases h j _ e2 with w | w; cases w
    exact g.ap i j m n ds es a z w s1 s2
theorem wipeD_length (env : En) : ∀ vs : List Nat, (wipeD env vs).length = env.length
  | [] => rfl
  | v :: vs => by unfold wipeD; rw [List.length_set, wipeD_length env vs]
theorem wipeD_at {env : En} : ∀ {vs : List Nat} {i : Nat} {s : Sl}, (wipeD env vs)[i]? = some s → s = .no ∨ (i ∉ vs ∧ env[i]? = some s)
  | [], i, s, h => .inr ⟨by simp, h⟩
  | v :: vs, i, s, h => by
    unfold wipeD at h
    rcases set_at h with ⟨rfl, rfl, _⟩ | ⟨ne, h⟩
    · exact .inl rfl
    · rcases wipeD_at h with z | ⟨z, h⟩
      · exact .inl z
      · exact .inr ⟨by simp [ne, z], h⟩
theorem Gh.wipe (g : Gh K B Fr G env σ H) (vs : List Nat) : Gh K B Fr G (wipeD env vs) (L2.wipe σ vs) H := by
  have at_ : ∀ {i : Nat} {s : Sl}, s ≠ .no → (wipeD env vs)[i]? = some s → (L2.wipe σ vs)[i]? = σ[i]? ∧ env[i]? = some s := fun {i s} hs h => by
    rcases wipeD_at h with z | ⟨z, h⟩
    · exact absurd z hs
    · exact ⟨wipe_out z, h⟩
  exact {
    gs := g.gs
    fs := g.fs
    dj := g.dj
    len := by rw [wipeD_length, wipe_length]; exact g.len
    val := fun i d e => by
      obtain ⟨h1, h2⟩ := at_ (by simp) e
      rw [h1]; exact g.val i d h2
    scr := fun i d e => by
      obtain ⟨h1, h2⟩ := at_ (by simp) e
      rw [h1]; exact g.scr i d h2
    own := fun i m d e => by
      obtain ⟨h1, h2⟩ := at_ (by simp) e
      rw [h1]; exact g.own i m d h2
    ap := fun i j m n ds es a e1 e2 s1 s2 => by
      obtain ⟨h1, h2⟩ := at_ (by simp) e1
      obtain ⟨k1, k2⟩ := at_ (by simp) e2
      rw [h1] at s1
      rw [k1] at s2
      exact g.ap i j m n ds es a h2 k2 s1 s2 }
/-- a list of ours is set aside while others work -/
theorem Gh.reserve (g : Gh K B Fr G env σ H) {p : Addr} {o : HO} (h : H p = some o) (hg : G p = none) (ha : Apart env σ p) : Gh K B (upd Fr p o) G env σ H where
  gs := g.gs
  fs := fun a x e => by
    by_cases he : a = p
    · subst he; rw [upd_same] at e; cases e; exact h
    · rw [upd_ne he] at e; exact g.fs a x e
  dj := fun a x e => by
    have he : a ≠ p := fun z => by subst z; rw [hg] at e; cases e
    rw [upd_ne he]; exact g.dj a x e
  len := g.len
  val := g.val
  scr := g.scr
  own := fun i m ds e => by
    obtain ⟨a, xs, h1, h2, h3, h4, h5, h6⟩ := g.own i m ds e
    refine ⟨a, xs, h1, h2, h3, h4, ?_, h6⟩
    rw [upd_ne (fun z => ha i m ds e (by rw [h1, z]))]
    exact h5
  ap := g.ap
theorem Gh.unreserve {p : Addr} {o : HO} (g : Gh K B (upd Fr p o) G env σ H) (hf : Fr p = none) : Gh K B Fr G env σ H ∧ H p = some o ∧ G p = none ∧ Apart env σ p := by
  have hF : ∀ {a : Addr}, upd Fr p o a = none → Fr a = none ∧ a ≠ p := fun {a} e => by
    by_cases he : a = p
    · subst he; rw [upd_same] at e; cases e
    · rw [upd_ne he] at e; exact ⟨e, he⟩
  refine ⟨⟨g.gs, fun a x e => ?_, fun a x e => (hF (g.dj a x e)).1, g.len, g.val, g.scr, fun i m ds e => ?_, g.ap⟩, g.fs p o upd_same, ?_, fun i m ds e z => ?_⟩
  · have he : a ≠ p := fun z => by subst z; rw [hf] at e; cases e
    exact g.fs a x (by rw [upd_ne he]; exact e)
  · obtain ⟨a, xs, h1, h2, h3, h4, h5, h6⟩ := g.own i m ds e
    exact ⟨a, xs, h1, h2, h3, h4, (hF h5).1, h6⟩
  · cases e : G p with
    | none => rfl
    | some x => exact absurd rfl (hF (g.dj p x e)).2
  · obtain ⟨a, xs, h1, h2, h3, h4, h5, h6⟩ := g.own i m ds e
    rw [h1] at z; cases z
    exact (hF h5).2 rfl
/-- .. and changes -/
theorem Gh.chg (g : Gh K B Fr G env σ H) {p : Addr} {o : HO} (hg : G p = none) (hf : Fr p = none) (ha : Apart env σ p) : Gh K B Fr G env σ (upd H p o) where
  gs := fun a x e => by
    have he : a ≠ p := fun z => by subst z; rw [hg] at e; cases e
    rw [upd_ne he]; exact g.gs a x e
  fs := fun a x e => by
    have he : a ≠ p := fun z => by subst z; rw [hf] at e; cases e
    rw [upd_ne he]; exact g.fs a x e
  dj := g.dj
  len := g.len
  val := g.val
  scr := g.scr
  own := fun i m ds e => by
    obtain ⟨a, xs, h1, h2, h3⟩ := g.own i m ds e
    refine ⟨a, xs, h1, ?_, h3⟩
    rw [upd_ne (fun z => ha i m ds e (by rw [h1, z]))]
    exact h2
  ap := g.ap
/-- an owned list changes -/
theorem Gh.put (g : Gh K B Fr G env σ H) {i : Nat} {m : Md} {ds es : List D} {a : Addr} {ys : List V} (e : env[i]? = some (.own m ds)) (ea : σ[i]? = some (some (.ref a))) (r : RpAll K G ys es) : Gh K B Fr G (env.set i (.own m es)) σ (upd H a (.lst ys)) := by
  obtain ⟨a', xs, h1, h2, h3, h4, h5, h6⟩ := g.own i m ds e
  rw [ea] at h1; cases h1
  have hi : i < env.length := (List.getElem?_eq_some_iff.mp e).1
  exact {
    gs := fun b x q => by
      have he : b ≠ a := fun z => by subst z; rw [h4] at q; cases q
      rw [upd_ne he]; exact g.gs b x q
    fs := fun b x q => by
      have he : b ≠ a := fun z => by subst z; rw [h5] at q; cases q
      rw [upd_ne he]; exact g.fs b x q
    dj := g.dj
    len := by rw [List.length_set]; exact g.len
    val := fun j d q => by
      rcases set_at q with ⟨_, z, _⟩ | ⟨_, q⟩
      · cases z
      · exact g.val j d q
    scr := fun j d q => by
      rcases set_at q with ⟨_, z, _⟩ | ⟨_, q⟩
      · cases z
      · exact g.scr j d q
    own := fun j n d q => by
      rcases set_at q with ⟨rfl, z, _⟩ | ⟨ne, q⟩
      · cases z
        exact ⟨a, ys, ea, upd_same, r, h4, h5, h6⟩
      · obtain ⟨b, zs, k1, k2, k3⟩ := g.own j n d q
        refine ⟨b, zs, k1, ?_, k3⟩
        rw [upd_ne (fun z => ne (g.ap j i n m d ds a q e (by rw [k1, z]) ea))]
        exact k2
    ap := fun j k n o d s b q1 q2 s1 s2 => by
      rcases set_at q1 with ⟨j1, _, _⟩ | ⟨_, f1⟩
      · rw [j1] at s1 ⊢
        rcases set_at q2 with ⟨k1, _, _⟩ | ⟨_, f2⟩
        · exact k1.symm
        · exact g.ap _ _ _ _ _ _ b e f2 s1 s2
      · rcases set_at q2 with ⟨k1, _, _⟩ | ⟨_, f2⟩
        · rw [k1] at s2 ⊢
          exact g.ap _ _ _ _ _ _ b f1 e s1 s2
        · exact g.ap _ _ _ _ _ _ b f1 f2 s1 s2 }
/-! ### locks -/
def lockB (B : Nat → Option Addr) (σ : Sg) : Wk → (Nat → Option Addr)
  | .items _ => B
  | .var i _ _ => fun j => if j = i then (match σ[i]? with
    | some (some (.ref a)) => some a
    | _ => none) else B j
def WkOk (env : En) : Wk → Prop
  | .items _ => True
  | .var i m ds => env[i]? = some (.own m ds)
theorem Gh.reown (g : Gh K B Fr G env σ H) {B' : Nat → Option Addr} {i : Nat} {m m' : Md} {ds : List D} (e : env[i]? = some (.own m ds)) (hB : ∀ j, j ≠ i → B' j = B j) (hi : ∀ a, σ[i]? = some (some (.ref a)) → (m ≠ .free → B i = some a) → m' ≠ .free → B' i = some a) :
    Gh K B' Fr G (env.set i (.own m' ds)) σ H where
  gs := g.gs
  fs := g.fs
  dj := g.dj
  len := by rw [List.length_set]; exact g.len
  val := fun j d q => by
    rcases set_at q with ⟨_, z, _⟩ | ⟨_, q⟩
    · cases z
    · exact g.val j d q
  scr := fun j d q => by
    rcases set_at q with ⟨_, z, _⟩ | ⟨_, q⟩
    · cases z
    · exact g.scr j d q
  own := fun j n d q => by
    rcases set_at q with ⟨j1, z, _⟩ | ⟨ne, q⟩
    · cases z
      subst j1
      obtain ⟨a, xs, h1, h2, h3, h4, h5, h6⟩ := g.own j m ds e
      exact ⟨a, xs, h1, h2, h3, h4, h5, hi a h1 h6⟩
    · obtain ⟨a, xs, h1, h2, h3, h4, h5, h6⟩ := g.own j n d q
      exact ⟨a, xs, h1, h2, h3, h4, h5, fun z => (hB j ne).trans (h6 z)⟩
  ap := fun j k n o d s b q1 q2 s1 s2 => by
    rcases set_at q1 with ⟨j1, _, _⟩ | ⟨_, f1⟩
    · rw [j1] at s1 ⊢
      rcases set_at q2 with ⟨k1, _, _⟩ | ⟨_, f2⟩
      · exact k1.symm
      · exact g.ap _ _ _ _ _ _ b e f2 s1 s2
    · rcases set_at q2 with ⟨k1, _, _⟩ | ⟨_, f2⟩
      · rw [k1] at s2 ⊢
        exact g.ap _ _ _ _ _ _ b f1 e s1 s2
      · exact g.ap _ _ _ _ _ _ b f1 f2 s1 s2
theorem Gh.lock (g : Gh K B Fr G env σ H) {wk : Wk} (ok : WkOk env wk) : Gh K (lockB B σ wk) Fr G (lockW env wk) σ H := by
  cases wk with
  | items ds => exact g
  | var i m ds =>
    refine g.reown (m := m) ok (fun j hj => if_neg hj) fun a ha _ _ => ?_
    unfold lockB
    simp only [if_pos, ha]
/-- what is known of a lock when it is taken -/
def LkB (B B' : Nat → Option Addr) : Wk → Prop
  | .items _ => B' = B
  | .var i m _ => (∀ j, j ≠ i → B' j = B j) ∧ (m ≠ .free → B' i = B i)
theorem Gh.lkB (g : Gh K B Fr G env σ H) {wk : Wk} (ok : WkOk env wk) : LkB B (lockB B σ wk) wk := by
  cases wk with
  | items ds => rfl
  | var i m ds =>
    refine ⟨fun j hj => if_neg hj, fun hm => ?_⟩
    obtain ⟨a, xs, h1, _, _, _, _, h6⟩ := g.own i m ds ok
    unfold lockB
    simp only [if_pos, h1]
    exact (h6 hm).symm
theorem Gh.unlock {B' : Nat → Option Addr} (g : Gh K B' Fr G env σ H) {wk : Wk} (st : stillW env wk) (lk : LkB B B' wk) : Gh K B Fr G (unlockW env wk) σ H := by
  cases wk with
  | items ds => cases lk; exact g
  | var i m ds =>
    refine g.reown (m := .lck) st (fun j hj => (lk.1 j hj).symm) fun a ha h hm => ?_
    rw [← lk.2 hm]
    exact h (by simp)
end

/-! ### targets -/
section
variable {K : Fg}
mutual
def tgS : Tg → List Nat
  | .n i => [i]
  | .t ts => tgSs ts
def tgSs : List Tg → List Nat
  | [] => []
  | t :: ts => tgS t ++ tgSs ts
end
/-- the slots outside vs are as they were -/
def Outside (σ σ' : Sg) (vs : List Nat) : Prop := σ'.length = σ.length ∧ ∀ j, j ∉ vs → σ'[j]? = σ[j]?
def tTg (K : Fg) (vs : List Nat) (w : D → En → (En → Prop) → Prop) : TG := fun v σ H Q => ∃ B Fr G env P d, Gh K B Fr G env σ H ∧ Rp K G v d ∧ w d env P ∧
  ∀ env' σ' H' G', P env' → Same G G' → Gh K B Fr G' env' σ' H' → Outside σ σ' vs → Q σ' H'
def tTgs (K : Fg) (vs : List Nat) (w : List D → En → (En → Prop) → Prop) : TGs := fun xs σ H Q => ∃ B Fr G env P ds, Gh K B Fr G env σ H ∧ RpAll K G xs ds ∧ w ds env P ∧
  ∀ env' σ' H' G', P env' → Same G G' → Gh K B Fr G' env' σ' H' → Outside σ σ' vs → Q σ' H'
theorem Outside.refl (σ : Sg) (vs : List Nat) : Outside σ σ vs := ⟨rfl, fun _ _ => rfl⟩
theorem Outside.set (σ : Sg) (i : Nat) (x : Option V) : Outside σ (σ.set i x) [i] := ⟨List.length_set, fun j h => List.getElem?_set_ne (by simpa [eq_comm] using h)⟩
theorem Outside.trans {σ σ1 σ2 : Sg} {vs ws : List Nat} (a : Outside σ σ1 vs) (b : Outside σ1 σ2 ws) : Outside σ σ2 (vs ++ ws) :=
  ⟨b.1.trans a.1, fun j h => (b.2 j fun z => h (List.mem_append_right _ z)).trans (a.2 j fun z => h (List.mem_append_left _ z))⟩
theorem Outside.wipe : ∀ {σ σ' : Sg} {vs ws : List Nat}, Outside σ σ' vs → (∀ i ∈ vs, i ∈ ws) → wipe σ' ws = wipe σ ws := fun {σ σ' vs ws} o h => by
  apply List.ext_getElem?
  intro j
  by_cases hj : j ∈ ws
  · have at_ : ∀ (τ : Sg) (ws : List Nat), j ∈ ws → (L2.wipe τ ws)[j]? = if j < τ.length then some none else none := by
      intro τ ws
      induction ws with
      | nil => intro h; simp at h
      | cons w ws ih =>
        intro h
        unfold L2.wipe
        by_cases e : w = j
        · subst e
          rw [List.getElem?_set, if_pos rfl, wipe_length]
        · rw [List.getElem?_set_ne e]
          exact ih (by rcases List.mem_cons.mp h with z | z; exact absurd z.symm e; exact z)
    rw [at_ _ _ hj, at_ _ _ hj, o.1]
  · rw [wipe_out hj, wipe_out hj]
    exact o.2 j fun z => hj (h j z)
section
variable {X : Cx} {pos : Pos}
theorem pg_nD {i : Nat} {x : Str} (hN : X.N.Nodup) (hi : X.N[i]? = some x) (hx : Loc X.env.scope x) (hf : X.fn x = true ∨ X.env.scope.names.lookup x = some .local) : PG X (.Name x pos) (tTg X.K [i] (bindT (.n i))) := by
  refine ⟨fun pins s σ H v u Q I r h => (pg_name hN hi hx hf).run pins s σ H v u Q I r ?_⟩
  obtain ⟨B, Fr, G, env, P, d, g, rp, hw, q⟩ := h
  unfold bindT at hw
  exact q _ _ _ _ hw.2 (Same.refl G) (g.store (r := .val d) rp) (Outside.set σ i _)
theorem pgs_nilD : PGs X [] (tTgs X.K [] (bindTs [])) := by
  refine ⟨fun pins s σ H vs us Q I r h => pgs_nil.run pins s σ H vs us Q I r ?_⟩
  obtain ⟨B, Fr, G, env, P, ds, g, rp, hw, q⟩ := h
  cases rp with
  | nil =>
    unfold bindTs at hw
    exact ⟨rfl, q _ _ _ _ hw (Same.refl G) g (Outside.refl σ _)⟩
  | cons _ _ =>
    unfold bindTs at hw
    exact hw.elim
theorem pgs_consD {e : Expr} {es : List Expr} {t : Tg} {ts : List Tg} {vs ws : List Nat} (h1 : PG X e (tTg X.K vs (bindT t))) (h2 : PGs X es (tTgs X.K ws (bindTs ts)))
    (hs : (assignEach (e :: es) X.env).map (·.2) = assign e X.env :: (assignEach es X.env).map (·.2)) : PGs X (e :: es) (tTgs X.K (vs ++ ws) (bindTs (t :: ts))) := by
  refine ⟨fun pins s σ H xs us Q I r h => (pgs_cons h1 h2 hs).run pins s σ H xs us Q I r ?_⟩
  obtain ⟨B, Fr, G, env, P, ds, g, rp, hw, q⟩ := h
  cases rp with
  | nil =>
    unfold bindTs at hw
    exact hw.elim
  | cons r1 r2 =>
    unfold bindTs at hw
    refine ⟨_, _, rfl, B, Fr, G, env, _, _, g, r1, hw, fun e1 σ1 H1 G1 p s1 g1 o1 => ⟨B, Fr, G1, e1, _, _, g1, r2.mono s1, p, fun e2 σ2 H2 G2 p s2 g2 o2 => ?_⟩⟩
    exact q _ _ _ _ p (s1.trans s2) g2 (o1.trans o2)
theorem bindTs_len : ∀ {ts : List Tg} {ds : List D} {env : En} {P : En → Prop}, bindTs ts ds env P → ts.length = ds.length ∨ ds.length ≠ ts.length := fun {ts ds _ _} _ => by omega
theorem pg_tD {es : List Expr} {k : Nat} {ts : List Tg} {vs : List Nat} (hc : X.calm = true) (hl : es.length = ts.length) (h : PGs X es (tTgs X.K vs (bindTs ts))) (hn : (assignEach es X.env).length = es.length) (hst : (assignEach es X.env).findIdx? (·.1) = none)
    (hb : ∀ ds env P, bindTs ts ds env P → ds.length = ts.length) : PG X (.Tuple es k pos) (tTg X.K vs (bindT (.t ts))) := by
  refine ⟨fun pins s σ H v u Q I r q => (pg_tup hc h hn hst).run pins s σ H v u Q I r ?_⟩
  obtain ⟨B, Fr, G, env, P, d, g, rp, hw, q⟩ := q
  cases rp with
  | tup ha ra =>
    unfold bindT at hw
    refine ⟨_, _, rfl, sqT_mono g.gs ha, ?_, B, Fr, G, env, _, _, g, ra, hw, q⟩
    rw [ra.length, hb _ _ _ hw, hl]
  | _ => unfold bindT at hw; exact hw.elim
end
/-- as many items as targets -/
theorem bindTs_same (mono : ∀ (t : Tg) (d : D) (env : En) (P P' : En → Prop), (∀ e, P e → P' e) → bindT t d env P → bindT t d env P') (fin : ∀ (t : Tg) (d : D) (env : En) (P : En → Prop), bindT t d env P → ∃ e, P e) :
    ∀ (ts : List Tg) (ds : List D) (env : En) (P : En → Prop), bindTs ts ds env P → ds.length = ts.length
  | [], [], _, _, _ => rfl
  | [], _ :: _, _, _, h => by unfold bindTs at h; exact h.elim
  | _ :: _, [], _, _, h => by unfold bindTs at h; exact h.elim
  | t :: ts, d :: ds, env, P, h => by
    unfold bindTs at h
    obtain ⟨e, h⟩ := fin _ _ _ _ h
    simp [bindTs_same mono fin ts ds e P h]
mutual
theorem bindT_fin : ∀ (t : Tg) (d : D) (env : En) (P : En → Prop), bindT t d env P → ∃ e, P e
  | .n i, d, env, P, h => by unfold bindT at h; exact ⟨_, h.2⟩
  | .t ts, d, env, P, h => by
    cases d <;> unfold bindT at h <;> try exact h.elim
    exact bindTs_fin ts _ env P h
theorem bindTs_fin : ∀ (ts : List Tg) (ds : List D) (env : En) (P : En → Prop), bindTs ts ds env P → ∃ e, P e
  | [], [], env, P, h => by unfold bindTs at h; exact ⟨_, h⟩
  | [], _ :: _, _, _, h => by unfold bindTs at h; exact h.elim
  | _ :: _, [], _, _, h => by unfold bindTs at h; exact h.elim
  | t :: ts, d :: ds, env, P, h => by
    unfold bindTs at h
    obtain ⟨e, h⟩ := bindT_fin t d env _ h
    exact bindTs_fin ts ds e P h
end
theorem bindTs_count : ∀ (ts : List Tg) (ds : List D) (env : En) (P : En → Prop), bindTs ts ds env P → ds.length = ts.length
  | [], [], _, _, _ => rfl
  | [], _ :: _, _, _, h => by unfold bindTs at h; exact h.elim
  | _ :: _, [], _, _, h => by unfold bindTs at h; exact h.elim
  | t :: ts, d :: ds, env, P, h => by
    unfold bindTs at h
    obtain ⟨e, h⟩ := bindT_fin t d env _ h
    simp [bindTs_count ts ds e P h]
end
end DL

set_option Elab.async false
set_option linter.all false
set_option maxRecDepth 100000
set_option maxHeartbeats 4000000
/-! DLf: what is walked; comprehensions; for and while. -/
namespace DL
open PySem PySem.Spec PyProof.Rows L2
/-- the iterator J yields the items of wk, from the ghost heap G on -/
def Jw (K : Fg) (B : Nat → Option Addr) (Fr G : Hp) (J : L2.It) (wk : Wk) : Prop :=
  ∀ (F1 G1 : Hp) (env : En) (σ : Sg) (H : Hp), Same Fr F1 → Same G G1 → Gh K B F1 G1 env σ H → stillW env wk → ∀ i : Nat,
    (∀ d, wk.ds[i]? = some d → J.go i H ∧ ∀ x H', J.yld i H x H' → ∃ G2, Same G1 G2 ∧ Gh K B F1 G2 env σ H' ∧ Rp K G2 x d ∧ (∀ b, H b ≠ none → H' b = H b)) ∧ (wk.ds.length ≤ i → J.stop i H)
def tIt (K : Fg) (w : En → (Wk → En → Prop) → Prop) : TI := fun σ H R => ∃ B Fr G env P, Gh K B Fr G env σ H ∧ w env P ∧
  ∀ wk e1 J H' G', P wk e1 → Same G G' → Gh K B Fr G' e1 σ H' → WkOk e1 wk → Jw K (lockB B σ wk) Fr G' J wk → R J H'
section
variable {X : Cx} {tg a b : Expr} {pos p : Pos}
/-- a list or a tuple -/
def iSeq (K : Fg) (tl : TE) : TI := fun σ H R => tl σ H fun x H1 => ∃ a, x = .ref a ∧ (((∃ xs, SqL K H1 a xs) ∧ R (Itl K a) H1) ∨ ((∃ xs, SqT K H1 a xs) ∧ R (Itt K a) H1))
theorem pi_seq {l : Expr} {tl : TE} (hl : PE X l tl) : PI X tg l (iSeq X.K tl) := by
  refine ⟨fun pins s σ H R I h => ?_⟩
  refine thn (hl.run pins s σ H _ I h) fun v s1 ⟨x, H1, I1, r1, q1⟩ => ?_
  obtain ⟨a, e, q1⟩ := q1
  subst e
  cases r1
  rcases q1 with ⟨⟨xs, hq⟩, q⟩ | ⟨⟨xs, hq⟩, q⟩
  · obtain ⟨its, rv, p, hz⟩ := I1.list hq
    refine wpAny_pyIter_list p.isList ?_
    refine ⟨s1.heap.objs.size, [s1.heap.objs.size], _, _, H1, rfl, I1.kept (t' := s1.toks) fun b o e => Heap.get?_push_of_some _ e, turn_list a _, ⟨_, Heap.get?_push_size _ rfl, rfl, rfl⟩, fun b hb => ?_, q⟩
    have e : b = s1.heap.objs.size := by simpa using hb
    subst e
    exact I1.fpOk (Nat.le_refl _) (I1.hok.fresh (Nat.le_refl _))
  · obtain ⟨its, rv, p, hz⟩ := I1.tuple hq
    refine wpAny_pyIter_tuple (show s1.heap.IsTuple a its.toArray from p) ?_
    refine ⟨s1.heap.objs.size, [s1.heap.objs.size], _, _, H1, rfl, I1.kept (t' := s1.toks) fun b o e => Heap.get?_push_of_some _ e, turn_tuple a _, ⟨_, Heap.get?_push_size _ rfl, rfl, rfl⟩, fun b hb => ?_, q⟩
    have e : b = s1.heap.objs.size := by simpa using hb
    subst e
    exact I1.fpOk (Nat.le_refl _) (I1.hok.fresh (Nat.le_refl _))
theorem pi_imp {e : Expr} {t t' : TI} (h : PI X tg e t) (w : ∀ σ H R, t' σ H R → t σ H R) : PI X tg e t' := ⟨fun pins s σ H Q I q => h.run pins s σ H Q I (w _ _ _ q)⟩
theorem sqL_at {K : Fg} {B : Nat → Option Addr} {Fr G : Hp} {env : En} {σ : Sg} {H : Hp} {a : Addr} {xs ys : List V} (h : H a = some (.lst xs)) (h2 : H a = some (.lst ys)) : xs = ys := by rw [h] at h2; cases h2; rfl
/-- a list that stays -/
theorem jw_list {K : Fg} {B : Nat → Option Addr} {Fr G : Hp} {a : Addr} {xs : List V} {ds : List D} (h : G a = some (.lst xs)) (r : RpAll K G xs ds) : Jw K B Fr G (Itl K a) (.items ds) := by
  intro F1 G1 env σ H sf s g _ i
  have hH : H a = some (.lst xs) := g.gs _ _ (s _ _ h)
  refine ⟨fun d e => ?_, fun hl => ⟨xs, SqL.of hH, by rw [r.length]; exact hl⟩⟩
  obtain ⟨v, hv, rv⟩ := r.get e
  refine ⟨⟨xs, v, SqL.of hH, hv⟩, fun x H' ⟨e1, y⟩ => ?_⟩
  subst e1
  have := y xs (SqL.of hH)
  rw [hv] at this; cases this
  exact ⟨G1, Same.refl G1, g, rv.mono s, fun _ _ => rfl⟩
theorem jw_tup {K : Fg} {B : Nat → Option Addr} {Fr G : Hp} {a : Addr} {xs : List V} {ds : List D} (h : SqT K G a xs) (r : RpAll K G xs ds) : Jw K B Fr G (Itt K a) (.items ds) := by
  intro F1 G1 env σ H sf s g _ i
  have hH : SqT K H a xs := sqT_mono g.gs (sqT_mono s h)
  refine ⟨fun d e => ?_, fun hl => ⟨xs, hH, by rw [r.length]; exact hl⟩⟩
  obtain ⟨v, hv, rv⟩ := r.get e
  refine ⟨⟨xs, v, hH, hv⟩, fun x H' ⟨e1, y⟩ => ?_⟩
  subst e1
  have := y xs hH
  rw [hv] at this; cases this
  exact ⟨G1, Same.refl G1, g, rv.mono s, fun _ _ => rfl⟩
theorem jw_cell {K : Fg} {B : Nat → Option Addr} {Fr G : Hp} {a : Addr} {i : Nat} {m : Md} {ds : List D} (h : B i = some a) : Jw K B Fr G (Itl K a) (.var i m ds) := by
  intro F1 G1 env σ H sf s g st j
  obtain ⟨a', xs, h1, h2, h3, h4, h5, h6⟩ := g.own i .lck ds st
  have := h6 (by simp)
  rw [h] at this; cases this
  refine ⟨fun d e => ?_, fun hl => ⟨xs, SqL.of h2, by rw [h3.length]; exact hl⟩⟩
  obtain ⟨v, hv, rv⟩ := h3.get e
  refine ⟨⟨xs, v, SqL.of h2, hv⟩, fun x H' ⟨e1, y⟩ => ?_⟩
  subst e1
  have := y xs (SqL.of h2)
  rw [hv] at this; cases this
  exact ⟨G1, Same.refl G1, g, rv, fun _ _ => rfl⟩
theorem jw_rng {K : Fg} {B : Nat → Option Addr} {Fr G : Hp} {lo : Int} {n : Nat} : Jw K B Fr G (Itr lo n) (.items (rngD lo n)) := by
  intro F1 G1 env σ H sf s g st j
  have hl : (rngD lo n).length = n := by unfold rngD; simp
  refine ⟨fun d e => ?_, fun h => ?_⟩
  · have hj : j < n := by rw [← hl]; exact (List.getElem?_eq_some_iff.mp e).1
    refine ⟨hj, fun x H' ⟨e1, e2⟩ => ?_⟩
    subst e1 e2
    have : d = .int (lo + (j : Nat)) := by
      have e' : (rngD lo n)[j]? = some d := e
      unfold rngD at e'
      simp [hj] at e'
      exact e'.symm
    subst this
    exact ⟨G1, Same.refl G1, g, .int _, fun _ _ => rfl⟩
  · have h' : (rngD lo n).length ≤ j := h
    rw [hl] at h'
    exact h'
theorem zipD_at : ∀ {xs ys : List D} {i : Nat} {d : D}, (zipD xs ys)[i]? = some d → ∃ x y, xs[i]? = some x ∧ ys[i]? = some y ∧ d = .tuple [x, y]
  | [], _, _, _, h => by simp [zipD] at h
  | _ :: _, [], _, _, h => by simp [zipD] at h
  | x :: xs, y :: ys, 0, d, h => by simp [zipD] at h; exact ⟨x, y, rfl, rfl, h.symm⟩
  | x :: xs, y :: ys, i + 1, d, h => by
    have h' : (zipD xs ys)[i]? = some d := by simpa [zipD] using h
    obtain ⟨a, b, h1, h2, h3⟩ := zipD_at h'
    exact ⟨a, b, by simpa using h1, by simpa using h2, h3⟩
theorem zipD_length : ∀ xs ys : List D, (zipD xs ys).length = min xs.length ys.length
  | [], ys => by simp [zipD]
  | x :: xs, [] => by simp [zipD]
  | x :: xs, y :: ys => by simp [zipD, zipD_length xs ys]
theorem enumD_at : ∀ {k : Nat} {xs : List D} {i : Nat} {d : D}, (enumD k xs)[i]? = some d → ∃ x, xs[i]? = some x ∧ d = .tuple [.int (k + i : Nat), x]
  | _, [], _, _, h => by simp [enumD] at h
  | k, x :: xs, 0, d, h => by simp [enumD] at h; exact ⟨x, rfl, by simpa using h.symm⟩
  | k, x :: xs, i + 1, d, h => by
    have h' : (enumD (k + 1) xs)[i]? = some d := by simpa [enumD] using h
    obtain ⟨a, h1, h3⟩ := enumD_at h'
    refine ⟨a, by simpa using h1, ?_⟩
    rw [h3]
    have : k + 1 + i = k + (i + 1) := by omega
    rw [this]
theorem enumD_length : ∀ (k : Nat) (xs : List D), (enumD k xs).length = xs.length
  | _, [] => rfl
  | k, x :: xs => by simp [enumD, enumD_length (k + 1) xs]
/-- a pair just made -/
theorem jw_pair {K : Fg} {B : Nat → Option Addr} {Fr G1 : Hp} {env : En} {σ : Sg} {H : Hp} {T : Addr} {x y : V} {d e : D} (g : Gh K B Fr G1 env σ H) (hT : H T = none) (rx : Rp K G1 x d) (ry : Rp K G1 y e) :
    ∃ G2, Same G1 G2 ∧ Gh K B Fr G2 env σ (upd H T (.tup [x, y])) ∧ Rp K G2 (.ref T) (.tuple [d, e]) ∧ (∀ b, H b ≠ none → upd H T (.tup [x, y]) b = H b) := by
  obtain ⟨g', s'⟩ := g.new (o := .tup [x, y]) hT
  exact ⟨_, s', g', .tup (SqT.of upd_same) (.cons (rx.mono s') (.cons (ry.mono s') .nil)), fun b hb => upd_ne fun z => hb (by rw [z]; exact hT)⟩
theorem jw_zipL {K : Fg} {B : Nat → Option Addr} {Fr G : Hp} {a b : Addr} {xs ys : List V} {ds es : List D} (h : G a = some (.lst xs)) (h2 : G b = some (.lst ys)) (r : RpAll K G xs ds) (r2 : RpAll K G ys es) : Jw K B Fr G (Itz K a b) (.items (zipD ds es)) := by
  intro F1 G1 env σ H sf s g st j
  have hA : H a = some (.lst xs) := g.gs _ _ (s _ _ h)
  have hB : H b = some (.lst ys) := g.gs _ _ (s _ _ h2)
  refine ⟨fun d e => ?_, fun hl => ⟨xs, ys, SqL.of hA, SqL.of hB, ?_⟩⟩
  · obtain ⟨x, y, e1, e2, rfl⟩ := zipD_at e
    obtain ⟨v, hv, rv⟩ := r.get e1
    obtain ⟨u, hu, ru⟩ := r2.get e2
    refine ⟨⟨xs, ys, v, u, SqL.of hA, SqL.of hB, hv, hu⟩, fun z H' ⟨T, x', y', e1, hT, e2, k1, k2⟩ => ?_⟩
    subst e1 e2
    have := k1 xs (SqL.of hA)
    rw [hv] at this; cases this
    have := k2 ys (SqL.of hB)
    rw [hu] at this; cases this
    exact jw_pair g hT (rv.mono s) (ru.mono s)
  · have : (zipD ds es).length ≤ j := hl
    rw [zipD_length] at this
    rw [r.length, r2.length]
    omega
theorem jw_zipT {K : Fg} {B : Nat → Option Addr} {Fr G : Hp} {a b : Addr} {xs ys : List V} {ds es : List D} (h : SqT K G a xs) (h2 : SqT K G b ys) (r : RpAll K G xs ds) (r2 : RpAll K G ys es) : Jw K B Fr G (RZ.ItzT K a b) (.items (zipD ds es)) := by
  intro F1 G1 env σ H sf s g st j
  have hA : SqT K H a xs := sqT_mono g.gs (sqT_mono s h)
  have hB : SqT K H b ys := sqT_mono g.gs (sqT_mono s h2)
  refine ⟨fun d e => ?_, fun hl => ⟨xs, ys, hA, hB, ?_⟩⟩
  · obtain ⟨x, y, e1, e2, rfl⟩ := zipD_at e
    obtain ⟨v, hv, rv⟩ := r.get e1
    obtain ⟨u, hu, ru⟩ := r2.get e2
    refine ⟨⟨xs, ys, v, u, hA, hB, hv, hu⟩, fun z H' ⟨T, x', y', e1, hT, e2, k1, k2⟩ => ?_⟩
    subst e1 e2
    have := k1 xs hA
    rw [hv] at this; cases this
    have := k2 ys hB
    rw [hu] at this; cases this
    exact jw_pair g hT (rv.mono s) (ru.mono s)
  · have : (zipD ds es).length ≤ j := hl
    rw [zipD_length] at this
    rw [r.length, r2.length]
    omega
theorem jw_enum {K : Fg} {B : Nat → Option Addr} {Fr G : Hp} {a : Addr} {xs : List V} {ds : List D} (h : G a = some (.lst xs)) (r : RpAll K G xs ds) : Jw K B Fr G (Ite K a) (.items (enumD 0 ds)) := by
  intro F1 G1 env σ H sf s g st j
  have hA : H a = some (.lst xs) := g.gs _ _ (s _ _ h)
  refine ⟨fun d e => ?_, fun hl => ⟨xs, SqL.of hA, ?_⟩⟩
  · obtain ⟨x, e1, rfl⟩ := enumD_at e
    obtain ⟨v, hv, rv⟩ := r.get e1
    refine ⟨⟨xs, v, SqL.of hA, hv⟩, fun z H' ⟨T, x', e1, hT, e2, k1⟩ => ?_⟩
    subst e1 e2
    have := k1 xs (SqL.of hA)
    rw [hv] at this; cases this
    rw [Nat.zero_add]
    exact jw_pair g hT (.int _) (rv.mono s)
  · have : (enumD 0 ds).length ≤ j := hl
    rw [enumD_length] at this
    rw [r.length]
    exact this
/-! ### the iterators' rules -/
theorem pi_eD {w : WH} (h : PE X a (tH X.K w)) : PI X tg a (tIt X.K fun env Q => w env fun h e1 => oP (wkOf e1 h) fun wk => Q wk e1) := by
  refine pi_imp (pi_seq h) ?_
  rintro σ H Q ⟨B, Fr, G, env, P, g, hw, q⟩
  refine ⟨B, Fr, G, env, _, g, hw, fun h e1 v H1 G1 p s g1 r => ?_⟩
  obtain ⟨wk, ew, p⟩ := oP_some p
  have data : ∀ d ds, Rp X.K G1 v d → seqD d = some ds → P (.items ds) e1 → ∃ a, v = .ref a ∧ (((∃ xs, SqL X.K H1 a xs) ∧ Q (Itl X.K a) H1) ∨ ((∃ xs, SqT X.K H1 a xs) ∧ Q (Itt X.K a) H1)) := fun d ds rp e p => by
    cases d <;> cases e
    · cases rp with
      | lst ha ra => exact ⟨_, rfl, .inl ⟨⟨_, SqL.of (g1.gs _ _ ha)⟩, q _ _ _ _ _ p s g1 trivial (jw_list ha ra)⟩⟩
    · cases rp with
      | tup ha ra => exact ⟨_, rfl, .inr ⟨⟨_, sqT_mono g1.gs ha⟩, q _ _ _ _ _ p s g1 trivial (jw_tup ha ra)⟩⟩
  cases h with
  | d d =>
    have ew' : (seqD d).map Wk.items = some wk := ew
    obtain ⟨ds, e1, e2⟩ := Option.map_eq_some_iff.mp ew'
    subst e2
    exact data d ds r e1 p
  | var i =>
    have r' : σ[i]? = some (some v) := r
    unfold wkOf at ew
    simp only at ew
    split at ew
    · rename_i d q1
      obtain ⟨ds, e1, e2⟩ := Option.map_eq_some_iff.mp ew
      subst e2
      obtain ⟨v', h1, h2⟩ := g1.val i _ q1
      rw [r'] at h1; cases h1
      exact data d ds h2 e1 p
    · rename_i m ds q1
      cases ew
      obtain ⟨a, xs, h1, h2, h3, h4, h5, h6⟩ := g1.own i _ _ q1
      rw [r'] at h1; cases h1
      refine ⟨a, rfl, .inl ⟨⟨xs, SqL.of h2⟩, q _ _ _ _ _ p s g1 q1 (jw_cell ?_)⟩⟩
      unfold lockB
      simp only [if_pos, r']
    · cases ew
theorem pi_rng1D {w : WD} (hn : ∀ x p, a ≠ .Starred x p) (hg : Gl X "range") (hm : X.mg "range" = none) (h : PE X a (tD X.K w)) :
    PI X tg (.Call (.Name "range" p) [a] [] pos) (tIt X.K fun env Q => w env fun d e1 => oP (intD d) fun j => (-(2 ^ 62) ≤ j ∧ j < 2 ^ 62) ∧ Q (.items (rngD 0 j.toNat)) e1) := by
  refine pi_imp (pi_range1 hg hm (pa_cons h pa_nil (notStar_each hn [] X.env)) (notStar_each hn [] X.env)) ?_
  rintro σ H Q ⟨B, Fr, G, env, P, g, hw, q⟩
  refine ⟨B, Fr, G, env, _, g, hw, fun d e1 v H1 G1 p s g1 r => ?_⟩
  obtain ⟨j, e, ⟨h1, h2⟩, p'⟩ := oP_some p
  cases d <;> cases e
  cases r
  exact ⟨j, rfl, h1, h2, q _ _ _ _ _ p' s g1 trivial jw_rng⟩
theorem pi_rng2D {w w2 : WD} (hn : ∀ x p, a ≠ .Starred x p) (hn2 : ∀ x p, b ≠ .Starred x p) (hg : Gl X "range") (hm : X.mg "range" = none) (h : PE X a (tD X.K w)) (h2 : PE X b (tD X.K w2)) :
    PI X tg (.Call (.Name "range" p) [a, b] [] pos) (tIt X.K fun env Q => w env fun d e1 => w2 e1 fun d' e2 => oP (intD d) fun i => oP (intD d') fun j => (-(2 ^ 62) ≤ i ∧ i < 2 ^ 62 ∧ -(2 ^ 62) ≤ j ∧ j < 2 ^ 62) ∧ Q (.items (rngD i (j - i).toNat)) e2) := by
  have e1 := notStar_each hn2 [] X.env
  have e0 := notStar_each hn [b] X.env
  refine pi_imp (pi_range2 hg hm (pa_cons h (pa_cons h2 pa_nil e1) e0) (by rw [e0, e1]; rfl) (by rw [e1]; rfl)) ?_
  rintro σ H Q ⟨B, Fr, G, env, P, g, hw, q⟩
  refine ⟨B, Fr, G, env, _, g, hw, fun d e1 v H1 G1 p s g1 r => ⟨B, Fr, G1, e1, _, g1, p, fun d' e2 v' H2 G2 p s2 g2 r2 => ?_⟩⟩
  obtain ⟨i, e, p1⟩ := oP_some p
  obtain ⟨j, e', h, p2⟩ := oP_some p1
  cases d <;> cases e
  cases d' <;> cases e'
  cases r
  cases r2
  exact ⟨i, j, rfl, h, q _ _ _ _ _ p2 (s.trans s2) g2 trivial jw_rng⟩
theorem pi_zipD {w w2 : WD} {elts : List Expr} {kk : Nat} {tpos : Pos} (hn : ∀ x p, a ≠ .Starred x p) (hn2 : ∀ x p, b ≠ .Starred x p) (hg : Gl X "zip") (hm : X.mg "zip" = none) (h : PE X a (tD X.K w)) (h2 : PE X b (tD X.K w2)) :
    PI X (.Tuple elts kk tpos) (.Call (.Name "zip" p) [a, b] [] pos) (tIt X.K fun env Q => w env fun d e1 => w2 e1 fun d' e2 => (match d, d' with
      | .list xs, .list ys => Q (.items (zipD xs ys)) e2
      | .tuple xs, .tuple ys => Q (.items (zipD xs ys)) e2
      | _, _ => False)) := by
  have e1 := notStar_each hn2 [] X.env
  have e0 := notStar_each hn [b] X.env
  refine pi_imp (RZ.pi_zipA hg hm (pa_cons h (pa_cons h2 pa_nil e1) e0) e0 (by rw [e1]; rfl)) ?_
  rintro σ H Q ⟨B, Fr, G, env, P, g, hw, q⟩
  refine ⟨B, Fr, G, env, _, g, hw, fun d e1 v H1 G1 p s g1 r => ⟨B, Fr, G1, e1, _, g1, p, fun d' e2 v' H2 G2 p s2 g2 r2 => ?_⟩⟩
  cases d <;> cases d' <;> try exact (show False from p).elim
  · cases r with
    | lst ha ra =>
      cases r2 with
      | lst hb rb => exact ⟨_, _, _, _, rfl, .inl ⟨SqL.of (g2.gs _ _ (s2 _ _ ha)), SqL.of (g2.gs _ _ hb), q _ _ _ _ _ p (s.trans s2) g2 trivial (jw_zipL (s2 _ _ ha) hb (ra.mono s2) rb)⟩⟩
  · cases r with
    | tup ha ra =>
      cases r2 with
      | tup hb rb => exact ⟨_, _, _, _, rfl, .inr ⟨sqT_mono g2.gs (sqT_mono s2 ha), sqT_mono g2.gs hb, q _ _ _ _ _ p (s.trans s2) g2 trivial (jw_zipT (sqT_mono s2 ha) hb (ra.mono s2) rb)⟩⟩
theorem pi_enumD {w : WD} {elts : List Expr} {kk : Nat} {tpos : Pos} (hn : ∀ x p, a ≠ .Starred x p) (hg : Gl X "enumerate") (hm : X.mg "enumerate" = none) (h : PE X a (tD X.K w)) :
    PI X (.Tuple elts kk tpos) (.Call (.Name "enumerate" p) [a] [] pos) (tIt X.K fun env Q => w env fun d e1 => (match d with
      | .list xs => Q (.items (enumD 0 xs)) e1
      | _ => False)) := by
  have e0 := notStar_each hn [] X.env
  refine pi_imp (pi_enum hg hm (pa_cons h pa_nil e0) e0) ?_
  rintro σ H Q ⟨B, Fr, G, env, P, g, hw, q⟩
  refine ⟨B, Fr, G, env, _, g, hw, fun d e1 v H1 G1 p s g1 r => ?_⟩
  cases d <;> try exact (show False from p).elim
  cases r with
  | lst ha ra => exact ⟨_, _, rfl, SqL.of (g1.gs _ _ ha), q _ _ _ _ _ p s g1 trivial (jw_enum ha ra)⟩
end
end DL

set_option Elab.async false
set_option linter.all false
set_option maxRecDepth 100000
set_option maxHeartbeats 4000000
/-! DLg: comprehensions. -/
namespace DL
open PySem PySem.Spec PyProof.Rows L2
section
variable {K : Fg} {B : Nat → Option Addr} {Fr G G' : Hp} {env : En} {σ : Sg} {H H' : Hp}
theorem Apart.wipe {a : Addr} (h : Apart env σ a) (vs : List Nat) : Apart (wipeD env vs) (L2.wipe σ vs) a := fun i m ds e => by
  rcases wipeD_at e with z | ⟨z, e⟩
  · cases z
  · rw [wipe_out z]
    exact h i m ds e
theorem unwipe_length (e1 : En) : ∀ (vs : List Nat) (e : En), (unwipe e1 vs e).length = e.length
  | [], e => rfl
  | v :: vs, e => by
    unfold unwipe
    rw [unwipe_length e1 vs]
    split
    · rw [List.length_set]
    · rfl
theorem unwipe_out (e1 : En) : ∀ (vs : List Nat) (e : En) (j : Nat), j ∉ vs → (unwipe e1 vs e)[j]? = e[j]?
  | [], e, j, _ => rfl
  | v :: vs, e, j, h => by
    unfold unwipe
    rw [unwipe_out e1 vs _ j fun z => h (List.mem_cons_of_mem _ z)]
    split
    · exact List.getElem?_set_ne fun z => h (by rw [← z]; exact List.mem_cons_self)
    · rfl
theorem unwipe_in (e1 : En) : ∀ (vs : List Nat) (e : En) (j : Nat), e.length = e1.length → j ∈ vs → (unwipe e1 vs e)[j]? = e1[j]?
  | [], e, j, _, h => by simp at h
  | v :: vs, e, j, hl, h => by
    unfold unwipe
    by_cases hj : j ∈ vs
    · refine unwipe_in e1 vs _ j ?_ hj
      split
      · rw [List.length_set]; exact hl
      · exact hl
    · rw [unwipe_out e1 vs _ j hj]
      have e0 : j = v := by
        rcases List.mem_cons.mp h with z | z
        · exact z
        · exact absurd z hj
      subst e0
      cases q : e1[j]? with
      | none => exact List.getElem?_eq_none (by rw [hl]; exact List.getElem?_eq_none_iff.mp q)
      | some s =>
        exact List.getElem?_set_self (by rw [hl]; exact (List.getElem?_eq_some_iff.mp q).1)
/-- the block is left: its own names are as they were -/
theorem Gh.unwipe {B' : Nat → Option Addr} {G0 H0 : Hp} {e1 : En} {vs : List Nat} (g : Gh K B' Fr G env (L2.wipe σ vs) H) (g0 : Gh K B Fr G0 e1 σ H0) (s : Same G0 G) (hp : ∀ i ∈ vs, plainSl e1[i]?) : Gh K B' Fr G (unwipe e1 vs env) σ H := by
  have hl : env.length = e1.length := by rw [g.len, wipe_length, g0.len]
  have own_ : ∀ {i : Nat} {m : Md} {ds : List D}, (DL.unwipe e1 vs env)[i]? = some (.own m ds) → i ∉ vs ∧ env[i]? = some (.own m ds) := fun {i m ds} e => by
    by_cases hi : i ∈ vs
    · rw [unwipe_in e1 vs env i hl hi] at e
      have := hp i hi
      rw [e] at this
      exact this.elim
    · rw [unwipe_out e1 vs env i hi] at e
      exact ⟨hi, e⟩
  exact {
    gs := g.gs
    fs := g.fs
    dj := g.dj
    len := by rw [unwipe_length, hl, g0.len]
    val := fun i d e => by
      by_cases hi : i ∈ vs
      · rw [unwipe_in e1 vs env i hl hi] at e
        obtain ⟨v, h1, h2⟩ := g0.val i d e
        exact ⟨v, h1, h2.mono s⟩
      · rw [unwipe_out e1 vs env i hi] at e
        obtain ⟨v, h1, h2⟩ := g.val i d e
        rw [wipe_out hi] at h1
        exact ⟨v, h1, h2⟩
    scr := fun i d e => by
      by_cases hi : i ∈ vs
      · rw [unwipe_in e1 vs env i hl hi] at e
        obtain ⟨v, h1, h2⟩ := g0.scr i d e
        exact ⟨v, h1, sqL_mono s h2⟩
      · rw [unwipe_out e1 vs env i hi] at e
        obtain ⟨v, h1, h2⟩ := g.scr i d e
        rw [wipe_out hi] at h1
        exact ⟨v, h1, h2⟩
    own := fun i m ds e => by
      obtain ⟨hi, e⟩ := own_ e
      obtain ⟨a, xs, h1, h2⟩ := g.own i m ds e
      rw [wipe_out hi] at h1
      exact ⟨a, xs, h1, h2⟩
    ap := fun i j m n ds es a e1' e2 s1 s2 => by
      obtain ⟨hi, e1'⟩ := own_ e1'
      obtain ⟨hj, e2⟩ := own_ e2
      rw [← wipe_out hi] at s1
      rw [← wipe_out hj] at s2
      exact g.ap i j m n ds es a e1' e2 s1 s2 }
theorem Apart.unwipe {e1 : En} {vs : List Nat} {a : Addr} (h : Apart env (L2.wipe σ vs) a) (hl : env.length = e1.length) (hp : ∀ i ∈ vs, plainSl e1[i]?) : Apart (unwipe e1 vs env) σ a := fun i m ds e => by
  by_cases hi : i ∈ vs
  · rw [unwipe_in e1 vs env i hl hi] at e
    have := hp i hi
    rw [e] at this
    exact this.elim
  · rw [unwipe_out e1 vs env i hi] at e
    rw [← wipe_out hi]
    exact h i m ds e
theorem Apart.unlock {wk : Wk} {a : Addr} (h : Apart env σ a) (st : stillW env wk) : Apart (unlockW env wk) σ a := by
  cases wk with
  | items ds => exact h
  | var i m ds =>
    intro j n es e
    rcases set_at e with ⟨j1, _, _⟩ | ⟨_, f⟩
    · subst j1
      exact h j .lck ds st
    · exact h j n es f
theorem stillW_unwipe {e1 : En} {vs : List Nat} {wk : Wk} (st : stillW env wk) (hl : env.length = e1.length) (hn : ∀ i m ds, wk = .var i m ds → i ∉ vs) : stillW (unwipe e1 vs env) wk := by
  cases wk with
  | items ds => trivial
  | var i m ds =>
    show (DL.unwipe e1 vs env)[i]? = _
    rw [unwipe_out e1 vs env i (hn i m ds rfl)]
    exact st
/-- a locked slot is none of the block's own -/
theorem lock_out {wk : Wk} {e1 : En} {vs : List Nat} (ok : WkOk e1 wk) (hp : ∀ i ∈ vs, plainSl e1[i]?) : ∀ i m ds, wk = .var i m ds → i ∉ vs := fun i m ds e hi => by
  subst e
  have := hp i hi
  rw [show e1[i]? = some (.own m ds) from ok] at this
  exact this
theorem Outside.wiped {σ' : Sg} {vs ws : List Nat} (o : Outside (L2.wipe σ ws) σ' vs) (h : ∀ i ∈ vs, i ∈ ws) : L2.wipe σ' ws = L2.wipe σ ws := by
  refine Outside.wipe (vs := ws) ⟨?_, fun j hj => ?_⟩ fun i hi => hi
  · rw [o.1, wipe_length]
  · rw [o.2 j fun z => hj (h j z), wipe_out hj]
end
theorem lc_of {K : Fg} {we : WD} {g : Tg} {wi : En → (Wk → En → Prop) → Prop} {wt : WB} {own : List Nat} (hsub : ∀ i ∈ tgS g, i ∈ own) :
    ∀ σ H Q, tE K (mLc we g wi wt own) σ H Q → tLc (tIt K wi) (tTg K (tgS g) (bindT g)) (tW K wt) (tD K we) own σ H Q := by
  rintro σ H Q ⟨B, Fr, G, env, P, g0, hw, q⟩
  refine ⟨B, Fr, G, env, _, g0, hw, fun wk e1 J H1 G1 p s g1 ok jw => ?_⟩
  obtain ⟨hp, hc⟩ := p
  replace hc := stp_get hc
  intro Dd hD
  have gw := (g1.lock ok).wipe own
  obtain ⟨f1, f2, f3⟩ := gw.fresh hD
  let PF : List D → En → Prop := fun acc e2 => P (.own .free acc) (unlockW (unwipe e1 own e2) wk)
  let INV : Nat → Hp → Prop := fun i H => ∃ G2 e acc accD, Same G1 G2 ∧ H Dd = some (.lst acc) ∧ RpAll K G2 acc accD ∧ G2 Dd = none ∧ Apart e (L2.wipe σ own) Dd ∧ Gh K (lockB B σ wk) Fr G2 e (L2.wipe σ own) H ∧
    wComp (fun e => stillW e wk) (bindT g) wt we own (wk.ds.drop i) accD e PF
  refine ⟨fun i m H => m = wk.ds.length - i ∧ i ≤ wk.ds.length ∧ INV i H, ⟨_, rfl, Nat.zero_le _, G1, _, [], [], Same.refl G1, upd_same, .nil, f1, f3, gw.alloc hD, hc⟩, ?_⟩
  rintro i m H2 ⟨rfl, hi, G2, e, acc, accD, s2, hDd, ra, hG, hA, g2, hc⟩
  by_cases hlt : i < wk.ds.length
  · rw [List.drop_eq_getElem_cons hlt] at hc
    obtain ⟨st, hc⟩ := hc
    have gr := g2.reserve hDd hG hA
    obtain ⟨go, yl⟩ := (jw _ G2 e _ H2 (same_upd f2) s2 gr st i).1 _ (List.getElem?_eq_getElem hlt)
    refine .inr ⟨go, fun H' => INV (i + 1) H', fun H' n => ⟨_, by omega, rfl, hlt, n⟩, fun x H3 y => ?_⟩
    obtain ⟨G3, s3, g3, rp, _⟩ := yl x H3 y
    refine ⟨_, _, G3, e, _, _, g3, rp, hc, fun e4 σ4 H4 G4 p4 s4 g4 o4 => ?_⟩
    have hwp : L2.wipe σ4 own = L2.wipe σ own := o4.wiped hsub
    refine ⟨hwp, _, _, G4, e4, _, g4, p4, fun b e5 H5 G5 p5 s5 g5 => ?_⟩
    have sT : Same G2 G5 := (s3.trans s4).trans s5
    cases b with
    | false =>
      replace p5 := brB_f p5
      obtain ⟨g6, h6, k6, a6⟩ := g5.unreserve f2
      have g7 := g6.wipe own
      have a7 := a6.wipe own
      rw [hwp] at g7 a7
      exact ⟨G5, _, acc, accD, s2.trans sT, h6, ra.mono sT, k6, a7, g7, p5⟩
    | true =>
      replace p5 := brB_t p5
      refine ⟨_, _, G5, e5, _, g5, p5, fun d e6 v H6 G6 p6 s6 g6 ry => ?_⟩
      obtain ⟨hlen, p6⟩ := p6
      obtain ⟨g7, h7, k7, a7⟩ := g6.unreserve f2
      have g8 := (g7.chg (o := .lst (acc ++ [v])) k7 f2 a7).wipe own
      have a8 := a7.wipe own
      rw [hwp] at g8 a8
      refine ⟨acc, h7, by rw [ra.length]; exact hlen, G6, _, acc ++ [v], accD ++ [d], (s2.trans sT).trans s6, upd_same, ((ra.mono sT).mono s6).append (.one ry), k7, a8, g8, p6⟩
  · have e0 : i = wk.ds.length := by omega
    subst e0
    rw [List.drop_length] at hc
    obtain ⟨st, hc⟩ := hc
    refine .inl ⟨(jw Fr G2 e _ H2 (Same.refl Fr) s2 g2 st _).2 (Nat.le_refl _), ?_⟩
    have hl : e.length = e1.length := by rw [g2.len, wipe_length, g1.len]
    have ho := lock_out ok hp
    have g3 := g2.unwipe g1 s2 hp
    have st3 := stillW_unwipe (e1 := e1) st hl ho
    exact q _ _ _ _ _ hc (s.trans s2) (g3.unlock st3 (g1.lkB ok)) ⟨rfl, Dd, acc, rfl, hDd, ra, hG, f2, (hA.unwipe hl hp).unlock st3⟩
section
variable {X : Cx}
theorem pts_nilD : PTs X [] (tW X.K fun env Q => Q true env) := ⟨fun pins s σ H Q I ⟨B, Fr, G, env, P, g, hw, q⟩ => pts_nil.run pins s σ H Q I (q _ _ _ _ hw (Same.refl G) g)⟩
theorem pe_lcD {elt tg iter : Expr} {ifs : List Expr} {scope : Scope} {ownN : List (Str × Nat)} {own : List Nat} {pos : Pos} {we : WD} {g : Tg} {wi : En → (Wk → En → Prop) → Prop} {wt : WB} (hown : ownN.map (·.2) = own) (hsub : ∀ i ∈ tgS g, i ∈ own)
    (hc : X.calm = true) (hN : X.N.Nodup) (hi : PI X tg iter (tIt X.K wi)) (ok : BlkOk X.N X.env.scope scope ownN)
    (hg : ∀ (s : Shared) (H : Hp) (C : Addr) (cl : List (Str × Addr)) (fp : List Addr), PG (X.blk s H scope (compEnvC scope cl C X.env) fp) tg (tTg X.K (tgS g) (bindT g)))
    (ht : ∀ (s : Shared) (H : Hp) (C : Addr) (cl : List (Str × Addr)) (fp : List Addr), PTs (X.blk s H scope (compEnvC scope cl C X.env) fp) ifs (tW X.K wt))
    (he : ∀ (s : Shared) (H : Hp) (C : Addr) (cl : List (Str × Addr)) (fp : List Addr), PE (X.blk s H scope (compEnvC scope cl C X.env) fp) elt (tD X.K we)) (hs : ∀ x, foldedSetIterable iter X.env x = pure x) :
    PE X (.ListComp elt [⟨tg, iter, ifs, 0⟩] scope pos) (tE X.K (mLc we g wi wt own)) := by
  subst hown
  exact pe_imp (pe_lc hc hN hi ok hg ht he hs) (lc_of hsub)
end
end DL

set_option Elab.async false
set_option linter.all false
set_option maxRecDepth 100000
set_option maxHeartbeats 4000000
/-! DLh: a text against a small term (mE ..), and that it means what the term means: expressions. -/
namespace DL
open PySem PySem.Spec PyProof.Rows L2
/-! ### looks at a text -/
def ob {α : Type} (o : Option α) (f : α → Bool) : Bool := match o with
  | some x => f x
  | none => false
theorem ob_t {α : Type} {o : Option α} {f : α → Bool} (h : ob o f = true) : ∃ x, o = some x ∧ f x = true := by
  cases o with
  | none => cases h
  | some x => exact ⟨x, rfl, h⟩
theorem an {a b : Bool} (h : (a && b) = true) : a = true ∧ b = true := Bool.and_eq_true_iff.mp h
def vName : Expr → Option Str
  | .Name x _ => some x
  | _ => none
def vConst : Expr → Option Const
  | .Constant c _ _ => some c
  | _ => none
def vBin : Expr → Option (Expr × Operator × Expr)
  | .BinOp a o b _ => some (a, o, b)
  | _ => none
def vNeg : Expr → Option Expr
  | .UnaryOp .USub a _ => some a
  | _ => none
def vNot : Expr → Option Expr
  | .UnaryOp .Not a _ => some a
  | _ => none
def vCmp : Expr → Option (Expr × CmpOp × Expr)
  | .Compare a [o] [b] _ => some (a, o, b)
  | _ => none
def vChain : Expr → Option (Expr × CmpOp × CmpOp × Expr × Expr)
  | .Compare a [o, o'] [b, c] _ => some (a, o, o', b, c)
  | _ => none
def vChain3 : Expr → Option (Expr × CmpOp × CmpOp × CmpOp × Expr × Expr × Expr)
  | .Compare a [o, o', o2] [b, c, d] _ => some (a, o, o', o2, b, c, d)
  | _ => none
def vAnd : Expr → Option (Expr × Expr)
  | .BoolOp .And [a, b] _ => some (a, b)
  | .BoolOp .And (a :: b :: c :: r) pos => some (a, .BoolOp .And (b :: c :: r) pos)
  | _ => none
def vOr : Expr → Option (Expr × Expr)
  | .BoolOp .Or [a, b] _ => some (a, b)
  | .BoolOp .Or (a :: b :: c :: r) pos => some (a, .BoolOp .Or (b :: c :: r) pos)
  | _ => none
def vIf : Expr → Option (Expr × Expr × Expr)
  | .IfExp t a b _ => some (t, a, b)
  | _ => none
def vTup : Expr → Option (List Expr)
  | .Tuple es _ _ => some es
  | _ => none
def vLst : Expr → Option (List Expr)
  | .List es _ => some es
  | _ => none
def vIx : Expr → Option (Expr × Expr)
  | .Subscript _ (.Slice _ _ _ _) _ => none
  | .Subscript a b _ => some (a, b)
  | _ => none
def vSl : Expr → Option (Expr × Option Expr × Option Expr)
  | .Subscript a (.Slice lo hi none _) _ => some (a, lo, hi)
  | _ => none
def vRev : Expr → Option Expr
  | .Subscript a (.Slice none none (some (.UnaryOp .USub (.Constant (.int 1) _ _) _)) _) _ => some a
  | _ => none
def vCall : Expr → Option (Str × List Expr)
  | .Call (.Name x _) es [] _ => some (x, es)
  | _ => none
def vLc : Expr → Option (Expr × Expr × Expr × List Expr × Scope)
  | .ListComp e [⟨tg, it, ifs, 0⟩] sc _ => some (e, tg, it, ifs, sc)
  | _ => none
def notStar : Expr → Bool
  | .Starred _ _ => false
  | _ => true
def notSet : Expr → Bool
  | .Set _ _ _ => false
  | _ => true
theorem vName_ok {x : Expr} {r} (h : vName x = some r) : ∃ p, x = .Name r p := by unfold vName at h; split at h <;> simp at h; subst h; exact ⟨_, rfl⟩
theorem vConst_ok {x : Expr} {r} (h : vConst x = some r) : ∃ k p, x = .Constant r k p := by unfold vConst at h; split at h <;> simp at h; subst h; exact ⟨_, _, rfl⟩
theorem vBin_ok {x : Expr} {r} (h : vBin x = some r) : ∃ p, x = .BinOp r.1 r.2.1 r.2.2 p := by unfold vBin at h; split at h <;> simp at h; subst h; exact ⟨_, rfl⟩
theorem vNeg_ok {x : Expr} {r} (h : vNeg x = some r) : ∃ p, x = .UnaryOp .USub r p := by unfold vNeg at h; split at h <;> simp at h; subst h; exact ⟨_, rfl⟩
theorem vNot_ok {x : Expr} {r} (h : vNot x = some r) : ∃ p, x = .UnaryOp .Not r p := by unfold vNot at h; split at h <;> simp at h; subst h; exact ⟨_, rfl⟩
theorem vCmp_ok {x : Expr} {r} (h : vCmp x = some r) : ∃ p, x = .Compare r.1 [r.2.1] [r.2.2] p := by unfold vCmp at h; split at h <;> simp at h; subst h; exact ⟨_, rfl⟩
theorem vChain3_ok {x : Expr} {r} (h : vChain3 x = some r) : ∃ p, x = .Compare r.1 [r.2.1, r.2.2.1, r.2.2.2.1] [r.2.2.2.2.1, r.2.2.2.2.2.1, r.2.2.2.2.2.2] p := by unfold vChain3 at h; split at h <;> simp at h; subst h; exact ⟨_, rfl⟩
theorem vChain_ok {x : Expr} {r} (h : vChain x = some r) : ∃ p, x = .Compare r.1 [r.2.1, r.2.2.1] [r.2.2.2.1, r.2.2.2.2] p := by unfold vChain at h; split at h <;> simp at h; subst h; exact ⟨_, rfl⟩
theorem vIf_ok {x : Expr} {r} (h : vIf x = some r) : ∃ p, x = .IfExp r.1 r.2.1 r.2.2 p := by unfold vIf at h; split at h <;> simp at h; subst h; exact ⟨_, rfl⟩
theorem vTup_ok {x : Expr} {r} (h : vTup x = some r) : ∃ k p, x = .Tuple r k p := by unfold vTup at h; split at h <;> simp at h; subst h; exact ⟨_, _, rfl⟩
theorem vLst_ok {x : Expr} {r} (h : vLst x = some r) : ∃ p, x = .List r p := by unfold vLst at h; split at h <;> simp at h; subst h; exact ⟨_, rfl⟩
theorem vIx_ok {x : Expr} {r} (h : vIx x = some r) : ∃ p, x = .Subscript r.1 r.2 p ∧ PlainIx r.2 := by
  unfold vIx at h
  split at h <;> simp at h
  rename_i a b p hn
  subst h
  refine ⟨_, rfl, fun o i => ?_⟩
  cases b <;> first | rfl | exact (hn _ _ _ _ rfl).elim
theorem vIx_ns {x : Expr} {r} (h : vIx x = some r) : ∀ l u s p, r.2 ≠ .Slice l u s p := by
  unfold vIx at h
  split at h <;> simp at h
  rename_i a b p hn
  subst h
  exact fun l u s p e => hn _ _ _ _ e
theorem vSl_ok {x : Expr} {r} (h : vSl x = some r) : ∃ p q, x = .Subscript r.1 (.Slice r.2.1 r.2.2 none p) q := by unfold vSl at h; split at h <;> simp at h; subst h; exact ⟨_, _, rfl⟩
theorem vRev_ok {x : Expr} {r} (h : vRev x = some r) : ∃ k p q s t, x = .Subscript r (.Slice none none (some (.UnaryOp .USub (.Constant (.int 1) k p) q)) s) t := by unfold vRev at h; split at h <;> simp at h; subst h; exact ⟨_, _, _, _, _, rfl⟩
theorem vCall_ok {x : Expr} {r} (h : vCall x = some r) : ∃ p q, x = .Call (.Name r.1 p) r.2 [] q := by unfold vCall at h; split at h <;> simp at h; subst h; exact ⟨_, _, rfl⟩
theorem vLc_ok {x : Expr} {r} (h : vLc x = some r) : ∃ p, x = .ListComp r.1 [⟨r.2.1, r.2.2.1, r.2.2.2.1, 0⟩] r.2.2.2.2 p := by unfold vLc at h; split at h <;> simp at h; subst h; exact ⟨_, rfl⟩
theorem vAnd_ok {x : Expr} {r} (h : vAnd x = some r) : (∃ p, x = .BoolOp .And [r.1, r.2] p) ∨ ∃ b c l p, x = .BoolOp .And (r.1 :: b :: c :: l) p ∧ r.2 = .BoolOp .And (b :: c :: l) p := by
  unfold vAnd at h
  split at h <;> simp at h <;> subst h
  · exact .inl ⟨_, rfl⟩
  · exact .inr ⟨_, _, _, _, rfl, rfl⟩
theorem vOr_ok {x : Expr} {r} (h : vOr x = some r) : (∃ p, x = .BoolOp .Or [r.1, r.2] p) ∨ ∃ b c l p, x = .BoolOp .Or (r.1 :: b :: c :: l) p ∧ r.2 = .BoolOp .Or (b :: c :: l) p := by
  unfold vOr at h
  split at h <;> simp at h <;> subst h
  · exact .inl ⟨_, rfl⟩
  · exact .inr ⟨_, _, _, _, rfl, rfl⟩
theorem notStar_ok {x : Expr} (h : notStar x = true) : ∀ y p, x ≠ .Starred y p := fun y p e => by subst e; cases h
theorem notSet_fold {x : Expr} (h : notSet x = true) (env : Env) (v : Value) : foldedSetIterable x env v = pure v := by cases x <;> first | rfl | cases h
theorem notSet_in {x : Expr} (h : notSet x = true) (o : CmpOp) : behindInMarks o x = false := by cases x <;> first | rfl | cases h
/-! ### the tables -/
structure Stat where
  names : List Str
  fns : List Fn
  free : List Str
  gl : List (Str × D)
def refsOf (s : Stat) (f : Nat) : List Bool := (s.fns[f]?.map Fn.refs).getD []
def vis (sc : Scope) (x : Str) : Bool := match sc.names.lookup x with
  | some .local => true
  | some .cell => true
  | some .free => true
  | _ => false
def loc (sc : Scope) (x : Str) : Bool := match sc.names.lookup x with
  | some .local => true
  | some .cell => true
  | _ => false
def glb (sc : Scope) (x : Str) : Bool := match sc.names.lookup x with
  | some .globalImplicit => true
  | _ => false
def okN (x : Str) : Bool := !(x == ("__debug__" : Str)) && !(x == ("__classdict__" : Str)) && !(x == ("__name__" : Str))
mutual
def eqD : D → D → Bool
  | .none, .none => true
  | .bool a, .bool b => a == b
  | .int a, .int b => decide (a = b)
  | .str a, .str b => decide (a = b)
  | .list a, .list b => eqDs a b
  | .tuple a, .tuple b => eqDs a b
  | _, _ => false
def eqDs : List D → List D → Bool
  | [], [] => true
  | a :: as, b :: bs => eqD a b && eqDs as bs
  | _, _ => false
end
mutual
theorem eqD_ok : ∀ {a b : D}, eqD a b = true → a = b
  | .none, b, h => by cases b <;> simp [eqD] at h ⊢
  | .bool a, b, h => by cases b <;> simp [eqD] at h ⊢; exact h
  | .int a, b, h => by cases b <;> simp [eqD] at h ⊢; exact h
  | .str a, b, h => by cases b <;> simp [eqD] at h ⊢; exact h
  | .list a, b, h => by cases b <;> simp [eqD] at h ⊢; exact eqDs_ok h
  | .tuple a, b, h => by cases b <;> simp [eqD] at h ⊢; exact eqDs_ok h
  | .dict a, b, h => by cases b <;> simp [eqD] at h
theorem eqDs_ok : ∀ {a b : List D}, eqDs a b = true → a = b
  | [], b, h => by cases b <;> simp [eqDs] at h ⊢
  | a :: as, b, h => by
    cases b with
    | nil => simp [eqDs] at h
    | cons b bs =>
      simp [eqDs] at h
      rw [eqD_ok h.1, eqDs_ok h.2]
end
def mC : D → Const → Bool
  | .none, .none => true
  | .bool a, .bool b => a == b
  | .int a, .int b => decide (a = b)
  | .str a, .str b => decide (a = b)
  | _, _ => false
def isB : D → Bool
  | .none => true
  | .bool _ => true
  | _ => false
mutual
def mTg (N : List Str) (sc : Scope) : Tg → Expr → Bool
  | .n i, x => ob (vName x) fun id => decide (N[i]? = some id) && loc sc id
  | .t ts, x => ob (vTup x) fun es => mTgs N sc ts es
def mTgs (N : List Str) (sc : Scope) : List Tg → List Expr → Bool
  | [], [] => true
  | t :: ts, e :: es => notStar e && mTg N sc t e && mTgs N sc ts es
  | _, _ => false
end
section
variable (s : Stat) (N : List Str)
mutual
def mE : Scope → E → Expr → Bool
  | sc, .c d, x => ob (vConst x) fun c => mC d c
  | sc, .g n d, x => ob (vName x) fun id => decide (id = n) && glb sc id && okN id && s.gl.any fun p => decide (p.1 = n) && eqD p.2 d
  | sc, .v i, x => ob (vName x) fun id => decide (N[i]? = some id) && vis sc id && okN id
  | sc, .bin o a b, x => ob (vBin x) fun r => decide (r.2.1 = opB o) && mE sc a r.1 && mE sc b r.2.2
  | sc, .neg a, x => ob (vNeg x) fun r => mE sc a r
  | sc, .cmp o a b, x => ob (vCmp x) fun r => decide (r.2.1 = opC o) && notSet r.2.2 && mE sc a r.1 && mE sc b r.2.2
  | sc, .chain3 o o' o2 a b c d, x => ob (vChain3 x) fun r => decide (r.2.1 = opC o) && decide (r.2.2.1 = opC o') && decide (r.2.2.2.1 = opC o2) && notSet r.2.2.2.2.2.2 && mE sc a r.1 && mE sc b r.2.2.2.2.1 && mE sc c r.2.2.2.2.2.1 && mE sc d r.2.2.2.2.2.2
  | sc, .chain o o' a b c, x => ob (vChain x) fun r => decide (r.2.1 = opC o) && decide (r.2.2.1 = opC o') && notSet r.2.2.2.2 && mE sc a r.1 && mE sc b r.2.2.2.1 && mE sc c r.2.2.2.2
  | sc, .isc n a d, x => ob (vCmp x) fun r => decide (r.2.1 = opI n) && isB d && mE sc a r.1 && ob (vConst r.2.2) fun c => mC d c
  | sc, .and a b, x => ob (vAnd x) fun r => mE sc a r.1 && mE sc b r.2
  | sc, .or a b, x => ob (vOr x) fun r => mE sc a r.1 && mE sc b r.2
  | sc, .not a, x => ob (vNot x) fun r => mE sc a r
  | sc, .ite t a b, x => ob (vIf x) fun r => mE sc t r.1 && mE sc a r.2.1 && mE sc b r.2.2
  | sc, .tup es, x => ob (vTup x) fun r => mEs sc es r
  | sc, .lst es, x => ob (vLst x) fun r => mEs sc es r
  | sc, .ix a i, x => ob (vIx x) fun r => mE sc a r.1 && mE sc i r.2
  | sc, .sl a lo hi, x => ob (vSl x) fun r => mE sc a r.1 && mEo sc lo r.2.1 && mEo sc hi r.2.2
  | sc, .rev a, x => ob (vRev x) fun r => mE sc a r
  | sc, .isi a t, x => ob (vCall x) fun r => decide (r.1 = ("isinstance" : Str)) && glb sc r.1 && s.free.contains r.1 && (match r.2 with
    | [y, z] => notStar y && mE sc a y && ob (vName z) fun id => decide (id = tyS t) && glb sc id && s.free.contains id
    | _ => false)
  | sc, .bi1 b a, x => ob (vCall x) fun r => decide (r.1 = biS b) && decide (b ≠ .max2 ∧ b ≠ .min2) && glb sc r.1 && s.free.contains r.1 && (match r.2 with
    | [y] => notStar y && mE sc a y
    | _ => false)
  | sc, .bi2 b a a', x => ob (vCall x) fun r => decide (r.1 = biS b) && decide (b = .max2 ∨ b = .min2) && glb sc r.1 && s.free.contains r.1 && (match r.2 with
    | [y, z] => notStar y && notStar z && mE sc a y && mE sc a' z
    | _ => false)
  | sc, .call f es, x => ob (vCall x) fun r => decide (s.names[f]? = some r.1) && glb sc r.1 && okN r.1 && mEs sc es r.2
  | sc, .lc e g it t own, x => ob (vLc x) fun r => blkC N sc r.2.2.2.2 (own.map fun i => (N.getD i Str.empty, i)) && decide (∀ i ∈ tgS g, i ∈ own) && mTg N r.2.2.2.2 g r.2.1 && notSet r.2.2.1 && mIt sc it r.2.1 r.2.2.1 && mTo r.2.2.2.2 t r.2.2.2.1 && mE r.2.2.2.2 e r.1
def mEs : Scope → Es → List Expr → Bool
  | _, .nil, [] => true
  | sc, .cons e es, x :: xs => notStar x && mE sc e x && mEs sc es xs
  | _, _, _ => false
def mEo : Scope → Eo → Option Expr → Bool
  | _, .non, none => true
  | sc, .som e, some x => mE sc e x
  | _, _, _ => false
def mTo : Scope → Eo → List Expr → Bool
  | _, .non, [] => true
  | sc, .som e, [x] => mE sc e x
  | _, _, _ => false
def mIt : Scope → It → Expr → Expr → Bool
  | sc, .e e, _, x => mE sc e x
  | sc, .rng1 a, _, x => ob (vCall x) fun r => decide (r.1 = ("range" : Str)) && glb sc r.1 && s.free.contains r.1 && (match r.2 with
    | [y] => notStar y && mE sc a y
    | _ => false)
  | sc, .rng2 a b, _, x => ob (vCall x) fun r => decide (r.1 = ("range" : Str)) && glb sc r.1 && s.free.contains r.1 && (match r.2 with
    | [y, z] => notStar y && notStar z && mE sc a y && mE sc b z
    | _ => false)
  | sc, .zip a b, tg, x => (vTup tg).isSome && ob (vCall x) fun r => decide (r.1 = ("zip" : Str)) && glb sc r.1 && s.free.contains r.1 && (match r.2 with
    | [y, z] => notStar y && notStar z && mE sc a y && mE sc b z
    | _ => false)
  | sc, .enum a, tg, x => (vTup tg).isSome && ob (vCall x) fun r => decide (r.1 = ("enumerate" : Str)) && glb sc r.1 && s.free.contains r.1 && (match r.2 with
    | [y] => notStar y && mE sc a y
    | _ => false)
end
end
/-! ### the context of a body -/
structure Tab where
  P : Program
  w : World
  K : Fg
  mg : Str → Option Value
  base : Heap
structure Cxt (T : Tab) (k : Nat) (N : List Str) (sc : Scope) (X : Cx) : Prop where
  prog : X.prog = T.P
  w : X.w = T.w
  K : X.K = T.K
  mg : X.mg = T.mg
  base : X.base = T.base
  xN : X.N = N
  nd : N.Nodup
  nm : ∀ x kd, sc.names.lookup x = some kd → X.env.scope.names.lookup x = some kd ∨ (kd = .free ∧ X.env.scope.names.lookup x = some .cell)
  fn : ∀ x, sc.names.lookup x = some .cell → X.fn x = true
  kind : X.env.scope.kind = .function
  calm : X.calm = true
  room : Room k X.A
  xe : X.xe = fun _ _ => False
/-- the def's promise, from its meaning -/
def spF (K : Fg) (np : Nat) (wf : List Sl → (Sl → List Sl → Prop) → Prop) : Sp := fun vs H Q _ => vs.length = np ∧ ∃ B Fr G args P, Gh K B Fr G args (vs.map some) H ∧ wf args P ∧
  ∀ r os v H' G', P r os → Same G G' → Gh K B Fr G' os (vs.map some) H' → Rr K Fr G' os (vs.map some) H' v r → Q v H'
/-- what a def of the table keeps -/
structure FnF (s : Stat) (T : Tab) (k : Nat) (f : Nat) (c : Fn) : Prop where
  ok : ∃ (x : Str) (a : Addr) (fd : FuncData) (ps : List Str), s.names[f]? = some x ∧ T.mg x = some (.ref a) ∧ PySem.W.keepIn T.K (.ref a) = true ∧ Binds T.K fd ps [] ∧ ps.length = c.np ∧
    FnOk T.P T.w T.K T.mg T.base CX0 k a fd ps (spF T.K c.np (wCall s.fns k f))
structure TabOk (s : Stat) (T : Tab) (k : Nat) : Prop where
  free : ∀ x, s.free.contains x = true → T.mg x = none
  gl : ∀ p ∈ s.gl, ∃ u v, T.mg p.1 = some u ∧ RelV v u ∧ ∀ G, Rp T.K G v p.2
  fn : ∀ f c, s.fns[f]? = some c → FnF s T k f c
section
variable {T : Tab} {k : Nat} {N : List Str} {sc : Scope} {X : Cx}
theorem Cxt.vis (c : Cxt T k N sc X) {x : Str} (h : vis sc x = true) : Vis X.env.scope x := by
  unfold DL.vis at h
  split at h
  · rename_i q; rcases c.nm x _ q with z | ⟨z, _⟩; exact .inl z; cases z
  · rename_i q; rcases c.nm x _ q with z | ⟨z, _⟩; exact .inr (.inl z); cases z
  · rename_i q; rcases c.nm x _ q with z | ⟨_, z⟩; exact .inr (.inr z); exact .inr (.inl z)
  · cases h
theorem Cxt.loc (c : Cxt T k N sc X) {x : Str} (h : loc sc x = true) : Loc X.env.scope x ∧ (X.fn x = true ∨ X.env.scope.names.lookup x = some .local) := by
  unfold DL.loc at h
  split at h
  · rename_i q; rcases c.nm x _ q with z | ⟨z, _⟩; exact ⟨.inl z, .inr z⟩; cases z
  · rename_i q; rcases c.nm x _ q with z | ⟨z, _⟩; exact ⟨.inr z, .inl (c.fn x q)⟩; cases z
  · cases h
theorem Cxt.glb (c : Cxt T k N sc X) {x : Str} (h : glb sc x = true) : Gl X x := by
  unfold DL.glb at h
  split at h
  · rename_i q; rcases c.nm x _ q with z | ⟨z, _⟩; exact z; cases z
  · cases h
theorem okN_d {x : Str} (h : okN x = true) : (x == ("__debug__" : Str)) = false ∧ (x == ("__classdict__" : Str)) = false := by
  unfold okN at h
  obtain ⟨h, _⟩ := an h
  obtain ⟨h1, h2⟩ := an h
  exact ⟨by simpa using h1, by simpa using h2⟩
theorem Cxt.hu (c : Cxt T k N sc X) : X.A.units + 65 < cLine := by have := c.room.un; omega
theorem Cxt.blkOk (c : Cxt T k N sc X) {scope : Scope} {own : List (Str × Nat)} (h : blkC N sc scope own = true) : BlkOk X.N X.env.scope scope own := by
  have b := blkOk_by h
  rw [← c.xN] at b
  refine ⟨b.kind, b.uniq, b.ix, fun y hy e => ?_, b.own⟩
  rcases b.free y hy e with z | z
  · rcases c.nm _ _ z with z | ⟨z, _⟩; exact .inl z; cases z
  · rcases c.nm _ _ z with z | ⟨_, z⟩; exact .inr z; exact .inl z
theorem relabel_at {env : Env} : ∀ {names : List (Str × NameKind)} {x : Str} {kd : NameKind}, names.lookup x = some kd →
    (names.map fun (n, k) => if (k == NameKind.free && env.scope.kind == .function && env.kindOf n == some .cell) then (n, NameKind.cell) else (n, k)).lookup x = some kd ∨
    (kd = .free ∧ (names.map fun (n, k) => if (k == NameKind.free && env.scope.kind == .function && env.kindOf n == some .cell) then (n, NameKind.cell) else (n, k)).lookup x = some .cell)
  | [], _, _, h => by simp at h
  | (n, k0) :: r, x, kd, h => by
    rw [List.lookup_cons] at h
    rw [List.map_cons]
    cases hx : x == n with
    | true =>
      rw [hx] at h
      cases h
      by_cases hc : (k0 == NameKind.free && env.scope.kind == .function && env.kindOf n == some .cell) = true
      · have hk : k0 = .free := by
          rw [Bool.and_eq_true, Bool.and_eq_true] at hc
          simpa using hc.1.1
        refine .inr ⟨hk, ?_⟩
        simp only [hc, if_true, List.lookup_cons, hx]
      · refine .inl ?_
        simp only [hc, if_false, List.lookup_cons, hx, Bool.false_eq_true]
    | false =>
      rw [hx] at h
      have ih := relabel_at (env := env) (names := r) h
      have e : ∀ z : NameKind, (((if (k0 == NameKind.free && env.scope.kind == .function && env.kindOf n == some .cell) = true then (n, NameKind.cell) else (n, k0)) :: r.map fun (n, k) => if (k == NameKind.free && env.scope.kind == .function && env.kindOf n == some .cell) then (n, NameKind.cell) else (n, k)).lookup x = some z) =
          ((r.map fun (n, k) => if (k == NameKind.free && env.scope.kind == .function && env.kindOf n == some .cell) then (n, NameKind.cell) else (n, k)).lookup x = some z) := fun z => by
        split <;> simp only [List.lookup_cons, hx]
      rw [e, e]
      exact ih
theorem Cxt.blk (c : Cxt T k N sc X) {scope : Scope} (hk : scope.kind = .function) (s : Shared) (H : Hp) (C : Addr) (cl : List (Str × Addr)) (fp : List Addr) : Cxt T k N scope (X.blk s H scope (compEnvC scope cl C X.env) fp) where
  prog := c.prog
  w := c.w
  K := c.K
  mg := c.mg
  base := c.base
  xN := c.xN
  nd := c.nd
  nm := fun x kd h => relabel_at (env := X.env) h
  fn := fun x h => by
    show (scope.names.lookup x == some .cell) = true
    rw [h]; rfl
  kind := hk
  calm := c.calm
  room := c.room
  xe := rfl
end
/-! ### targets -/
section
variable {T : Tab} {k : Nat} {N : List Str}
theorem each_len : ∀ (es : List Expr) (env : Env), (assignEach es env).length = es.length
  | [], _ => rfl
  | e :: es, env => by
    have ih := each_len es env
    cases e <;> (unfold assignEach; simp only [List.length_cons, ih])
theorem each_cons {e : Expr} {es : List Expr} {env : Env} (h : notStar e = true) : assignEach (e :: es) env = (false, assign e env) :: assignEach es env := by
  cases e <;> first | rfl | cases h
mutual
theorem sTg : ∀ (g : Tg) {sc : Scope} {x : Expr} {X : Cx}, mTg N sc g x = true → Cxt T k N sc X → PG X x (tTg X.K (tgS g) (bindT g))
  | .n i, sc, x, X, h, c => by
    unfold mTg at h
    obtain ⟨id, e, h⟩ := ob_t h
    obtain ⟨p, rfl⟩ := vName_ok e
    obtain ⟨h1, h2⟩ := an h
    obtain ⟨l1, l2⟩ := c.loc h2
    exact pg_nD (by rw [c.xN]; exact c.nd) (by rw [c.xN]; exact of_decide_eq_true h1) l1 l2
  | .t ts, sc, x, X, h, c => by
    unfold mTg at h
    obtain ⟨es, e, h⟩ := ob_t h
    obtain ⟨q, p, rfl⟩ := vTup_ok e
    obtain ⟨hl, hs, hg⟩ := sTgs ts h c
    exact pg_tD c.calm hl hg (each_len es X.env) hs fun ds env P hb => bindTs_count ts ds env P hb
theorem sTgs : ∀ (ts : List Tg) {sc : Scope} {es : List Expr} {X : Cx}, mTgs N sc ts es = true → Cxt T k N sc X → es.length = ts.length ∧ (assignEach es X.env).findIdx? (·.1) = none ∧ PGs X es (tTgs X.K (tgSs ts) (bindTs ts))
  | [], sc, [], X, h, c => ⟨rfl, rfl, pgs_nilD⟩
  | [], sc, _ :: _, X, h, c => by cases h
  | _ :: _, sc, [], X, h, c => by cases h
  | t :: ts, sc, e :: es, X, h, c => by
    unfold mTgs at h
    obtain ⟨h, h3⟩ := an h
    obtain ⟨h1, h2⟩ := an h
    obtain ⟨hl, hs, hg⟩ := sTgs ts h3 c
    have ec := each_cons (es := es) (env := X.env) h1
    refine ⟨by simp [hl], ?_, pgs_consD (sTg t h2 c) hg (by rw [ec]; rfl)⟩
    rw [ec, List.findIdx?_cons, hs]
    rfl
end
end
end DL

set_option Elab.async false
set_option linter.all false
set_option maxRecDepth 100000
set_option maxHeartbeats 4000000
/-! DLi: expressions mean what their terms mean. -/
namespace DL
open PySem PySem.Spec PyProof.Rows L2
def isBool : Expr → Bool
  | .BoolOp _ _ _ => true
  | _ => false
section
variable {T : Tab} {k : Nat} {N : List Str} {X : Cx}
theorem pe_cD {d : D} {c : Const} {n : Nat} {pos : Pos} (h : mC d c = true) : PE X (.Constant c n pos) (tE X.K fun env Q => Q (.val d) env) := by
  have go : ∀ (v : V), (∀ G, Rp X.K G v d) → ∀ σ H Q, tE X.K (fun env Q => Q (.val d) env) σ H Q → tC v σ H Q := fun v r σ H Q ⟨B, Fr, G, env, P, g, hw, q⟩ => q _ _ _ _ _ hw (Same.refl G) g (r G)
  cases d <;> cases c <;> first
    | (cases h; done)
    | exact pe_imp pe_non (go _ fun _ => .non)
    | (rename_i a b
       have e : a = b := by first | exact of_decide_eq_true h | exact eq_of_beq h
       subst e
       first
        | exact pe_imp pe_bl (go _ fun _ => .bl _)
        | exact pe_imp pe_int (go _ fun _ => .int _)
        | exact pe_imp pe_str (go _ fun _ => .str _))
theorem hasSl_ok {env : En} {i : Nat} (h : hasSl env i) : ∃ s, env[i]? = some s ∧ s ≠ .no := by
  unfold hasSl at h
  split at h
  · exact h.elim
  · rename_i s hn e
    exact ⟨s, e, fun z => hn z⟩
  · exact h.elim
theorem pe_vH {i : Nat} {x : Str} {pos : Pos} (hN : X.N[i]? = some x) (hv : Vis X.env.scope x) (h1 : (x == ("__debug__" : Str)) = false) (h2 : (x == ("__classdict__" : Str)) = false) :
    PE X (.Name x pos) (tH X.K fun env Q => hasSl env i ∧ Q (.var i) env) := by
  refine pe_imp (pe_var hN hv h1 h2) ?_
  rintro σ H Q ⟨B, Fr, G, env, P, g, ⟨hs, hw⟩, q⟩
  obtain ⟨s, e, hs⟩ := hasSl_ok hs
  have hv : ∃ v, σ[i]? = some (some v) := by
    cases s with
    | no => exact absurd rfl hs
    | val d => obtain ⟨v, h, _⟩ := g.val i d e; exact ⟨v, h⟩
    | own m ds => obtain ⟨a, _, h, _⟩ := g.own i m ds e; exact ⟨_, h⟩
    | scr ns => obtain ⟨a, h, _⟩ := g.scr i ns e; exact ⟨_, h⟩
  obtain ⟨v, hv⟩ := hv
  exact ⟨v, hv, q _ _ _ _ _ hw (Same.refl G) g hv⟩
theorem pe_vE {i : Nat} {x : Str} {pos : Pos} (hN : X.N[i]? = some x) (hv : Vis X.env.scope x) (h1 : (x == ("__debug__" : Str)) = false) (h2 : (x == ("__classdict__" : Str)) = false) :
    PE X (.Name x pos) (tE X.K (mV i)) := by
  refine pe_imp (pe_var hN hv h1 h2) ?_
  rintro σ H Q ⟨B, Fr, G, env, P, g, hw, q⟩
  unfold mV at hw
  split at hw
  · rename_i d e
    obtain ⟨v, h, r⟩ := g.val i d e
    exact ⟨v, h, q _ _ _ _ _ hw (Same.refl G) g r⟩
  · rename_i ds e
    obtain ⟨a, xs, h, h1, h2, h3, h4, h5⟩ := g.own i _ ds e
    -- the list is frozen
    have g1 : Gh X.K B Fr G (env.set i .no) σ H := g.fewer List.length_set fun j s z => by
      rcases set_at z with ⟨_, z, _⟩ | ⟨_, z⟩
      · exact .inl z
      · exact .inr z
    have ha : Apart (env.set i .no) σ a := fun j m es z s2 => by
      rcases set_at z with ⟨_, z, _⟩ | ⟨ne, z⟩
      · cases z
      · exact ne (g.ap j i m _ es ds a z e s2 h)
    have g2 := g1.join h1 h3 h4 ha
    have rp : Rp X.K (upd G a (.lst xs)) (.ref a) (.list ds) := .lst upd_same (h2.mono (same_upd h3))
    have g3 := g2.store (i := i) (v := .ref a) (r := .val (.list ds)) rp
    have e1 : (env.set i .no).set i (.val (.list ds)) = env.set i (.val (.list ds)) := List.set_set ..
    have e2 : σ.set i (some (.ref a)) = σ := by
      apply List.ext_getElem?
      intro j
      by_cases hj : j = i
      · subst hj
        rw [List.getElem?_set_self (List.getElem?_eq_some_iff.mp h).1, h]
      · rw [List.getElem?_set_ne (Ne.symm hj)]
    rw [e1, e2] at g3
    exact ⟨_, h, q _ _ _ _ _ hw (same_upd h3) g3 rp⟩
  · rename_i ns e
    obtain ⟨a, h, r⟩ := g.scr i ns e
    exact ⟨_, h, q _ _ _ _ _ hw (Same.refl G) g ⟨a, rfl, r⟩⟩
  · exact hw.elim
theorem rd_var {env : En} {i : Nat} {d : D} (h : rd env (.var i) = some d) : ∃ s, env[i]? = some s ∧ s ≠ .no := by
  unfold rd at h
  simp only at h
  split at h
  · rename_i e; exact ⟨_, e, by simp⟩
  · rename_i e; exact ⟨_, e, by simp⟩
  · cases h
end
/-! ### arguments -/
section
variable {X : Cx}
theorem pa_nilA : PA X [] (tAr X.K fun env Q => Q [] env) := by
  refine pa_imp pa_nil ?_
  rintro σ H Q ⟨B, Fr, G, env, P, g, hw, q⟩
  exact q _ _ _ _ _ hw (Same.refl G) g .nil
theorem Ra.mono {K : Fg} {G G' : Hp} {σ : Sg} {v : V} {a : Ar} (s : Same G G') (h : Ra K G σ v a) : Ra K G' σ v a := by
  cases a with
  | val sl =>
    cases sl with
    | val d => exact Rp.mono s h
    | scr ns => obtain ⟨a, e, h⟩ := h; exact ⟨a, e, sqL_mono s h⟩
    | no => exact h
    | own m ds => exact h
  | var i => exact h
theorem pa_consV {a : Expr} {es : List Expr} {w : WE} {ws : En → (List Ar → En → Prop) → Prop} (hn : ∀ x p, a ≠ .Starred x p) (ha : PE X a (tE X.K w)) (hb : PA X es (tAr X.K ws)) :
    PA X (a :: es) (tAr X.K fun env Q => w env fun r e1 => oP (argSl r) fun s => ws e1 fun as e2 => Q (.val s :: as) e2) := by
  refine pa_imp (pa_cons ha hb (notStar_each hn es X.env)) ?_
  rintro σ H Q ⟨B, Fr, G, env, P, g, hw, q⟩
  refine ⟨B, Fr, G, env, _, g, hw, fun r e1 v H1 G1 p s g1 rr => ?_⟩
  obtain ⟨sl, es, p⟩ := oP_some p
  have fin : ∀ (G2 : Hp), Same G1 G2 → Gh X.K B Fr G2 e1 σ H1 → Ra X.K G2 σ v (.val sl) → tAr X.K ws σ H1 fun vs H' => Q (v :: vs) H' := fun G2 s2 g2 ra =>
    ⟨B, Fr, G2, e1, _, g2, p, fun as e2 vs H2 G3 p3 s3 g3 rs => q _ _ _ _ _ p3 ((s.trans s2).trans s3) g3 (.cons (ra.mono s3) rs)⟩
  cases r with
  | no => cases es
  | val d => cases es; exact fin G1 (Same.refl G1) g1 rr
  | scr ns => cases es; exact fin G1 (Same.refl G1) g1 rr
  | own m ds =>
    cases m <;> cases es
    obtain ⟨G2, s2, g2, r2⟩ := g1.freeze (d := .list ds) rr rfl
    exact fin G2 s2 g2 r2
theorem pa_consR {i : Nat} {x : Str} {pos : Pos} {es : List Expr} {ws : En → (List Ar → En → Prop) → Prop} (hN : X.N[i]? = some x) (hv : Vis X.env.scope x) (h1 : (x == ("__debug__" : Str)) = false) (h2 : (x == ("__classdict__" : Str)) = false) (hb : PA X es (tAr X.K ws)) :
    PA X (.Name x pos :: es) (tAr X.K fun env Q => hasSl env i ∧ ws env fun as e2 => Q (.var i :: as) e2) := by
  refine pa_imp (pa_cons (pe_vH hN hv h1 h2) hb rfl) ?_
  rintro σ H Q ⟨B, Fr, G, env, P, g, ⟨hs, hw⟩, q⟩
  refine ⟨B, Fr, G, env, fun h e => h = .var i ∧ e = env, g, ⟨hs, rfl, rfl⟩, fun h e1 v H1 G1 p s g1 rr => ?_⟩
  obtain ⟨rfl, rfl⟩ := p
  exact ⟨B, Fr, G1, e1, _, g1, hw, fun as e2 vs H2 G3 p3 s3 g3 rs => q _ _ _ _ _ p3 (s.trans s3) g3 (.cons rr rs)⟩
end
end DL

set_option Elab.async false
set_option linter.all false
set_option maxRecDepth 100000
set_option maxHeartbeats 4000000
/-! DLj: calls of defs. -/
namespace DL
open PySem PySem.Spec PyProof.Rows L2
theorem lend_at : ∀ {as : List Ar} {env : En} {args : List Sl}, lend env as = some args → args.length = as.length ∧ ∀ (j : Nat) (s : Sl), args[j]? = some s →
    (as[j]? = some (.val s)) ∨ ∃ i m ds, as[j]? = some (.var i) ∧ env[i]? = some (.own m ds) ∧ m ≠ .lck ∧ s = .own .bor ds
  | [], env, args, h => by
    unfold lend at h
    cases h
    exact ⟨rfl, fun j s e => by simp at e⟩
  | .val t :: r, env, args, h => by
    unfold lend at h
    obtain ⟨l, h1, h2⟩ := Option.map_eq_some_iff.mp h
    subst h2
    obtain ⟨hl, ih⟩ := lend_at h1
    refine ⟨by simp [hl], fun j s e => ?_⟩
    cases j with
    | zero => simp at e; subst e; exact .inl rfl
    | succ j => exact ih j s (by simpa using e)
  | .var i :: r, env, args, h => by
    have key : ∃ m ds l, env[i]? = some (.own m ds) ∧ m ≠ .lck ∧ lend env r = some l ∧ args = .own .bor ds :: l := by
      unfold lend at h
      split at h
      · rename_i ds e
        obtain ⟨l, h1, h2⟩ := Option.map_eq_some_iff.mp h
        exact ⟨_, _, l, e, by simp, h1, h2.symm⟩
      · rename_i ds e
        obtain ⟨l, h1, h2⟩ := Option.map_eq_some_iff.mp h
        exact ⟨_, _, l, e, by simp, h1, h2.symm⟩
      · cases h
    obtain ⟨m, ds, l, e1, e2, h1, rfl⟩ := key
    obtain ⟨hl, ih⟩ := lend_at h1
    refine ⟨by simp [hl], fun j s e => ?_⟩
    cases j with
    | zero => simp at e; subst e; exact .inr ⟨i, m, ds, rfl, e1, e2, rfl⟩
    | succ j => exact ih j s (by simpa using e)
theorem lent_mem : ∀ {as : List Ar} {j i : Nat}, as[j]? = some (.var i) → i ∈ lent as
  | [], j, i, h => by simp at h
  | .val t :: r, 0, i, h => by simp at h
  | .val t :: r, j + 1, i, h => by unfold lent; exact lent_mem (as := r) (j := j) (by simpa using h)
  | .var k :: r, 0, i, h => by simp at h; subst h; unfold lent; exact List.mem_cons_self
  | .var k :: r, j + 1, i, h => by unfold lent; exact List.mem_cons_of_mem _ (lent_mem (as := r) (j := j) (by simpa using h))
theorem lent_of : ∀ {as : List Ar} {i : Nat}, i ∈ lent as → ∃ j : Nat, as[j]? = some (.var i)
  | [], i, h => by simp [lent] at h
  | .val t :: r, i, h => by
    unfold lent at h
    obtain ⟨j, e⟩ := lent_of h
    exact ⟨j + 1, by simpa using e⟩
  | .var k :: r, i, h => by
    unfold lent at h
    rcases List.mem_cons.mp h with e | h
    · subst e; exact ⟨0, rfl⟩
    · obtain ⟨j, e⟩ := lent_of h
      exact ⟨j + 1, by simpa using e⟩
theorem lent_inj : ∀ {as : List Ar} {j j' i : Nat}, (lent as).Nodup → as[j]? = some (Ar.var i) → as[j']? = some (Ar.var i) → j = j'
  | [], j, j', i, _, h, _ => by simp at h
  | .val t :: r, 0, _, i, _, h, _ => by simp at h
  | .val t :: r, j + 1, 0, i, _, _, h => by simp at h
  | .val t :: r, j + 1, j' + 1, i, nd, h, h' => by
    unfold lent at nd
    have e : j = j' := lent_inj (as := r) (i := i) nd (by simpa using h) (by simpa using h')
    rw [e]
  | .var k :: r, 0, 0, i, _, _, _ => rfl
  | .var k :: r, 0, j' + 1, i, nd, h, h' => by
    unfold lent at nd
    simp at h
    subst h
    exact absurd (lent_mem (as := r) (j := j') (by simpa using h')) (List.nodup_cons.mp nd).1
  | .var k :: r, j + 1, 0, i, nd, h, h' => by
    unfold lent at nd
    simp at h'
    subst h'
    exact absurd (lent_mem (as := r) (j := j) (by simpa using h)) (List.nodup_cons.mp nd).1
  | .var k :: r, j + 1, j' + 1, i, nd, h, h' => by
    unfold lent at nd
    have e : j = j' := lent_inj (as := r) (i := i) (List.nodup_cons.mp nd).2 (by simpa using h) (by simpa using h')
    rw [e]
theorem back_length : ∀ (as : List Ar) (outs : List Sl) (env : En), (back env as outs).length = env.length
  | [], outs, env => by unfold back; rfl
  | .val t :: r, [], env => by unfold back; rfl
  | .val t :: r, o :: os, env => by unfold back; exact back_length r os env
  | .var i :: r, [], env => by unfold back; rfl
  | .var i :: r, o :: os, env => by unfold back; rw [back_length r os, List.length_set]
theorem back_at : ∀ (as : List Ar) (outs : List Sl) (env : En) (i : Nat) (s : Sl), outs.length = as.length → (lent as).Nodup → (back env as outs)[i]? = some s →
    (i ∉ lent as ∧ env[i]? = some s) ∨ s = .no ∨ ∃ (j : Nat) (m m' : Md) (ds es : List D), as[j]? = some (.var i) ∧ outs[j]? = some (.own m' ds) ∧ env[i]? = some (.own m es) ∧ s = .own m ds
  | [], outs, env, i, s, _, _, h => by
    unfold back at h
    exact .inl ⟨by simp [lent], h⟩
  | a :: r, [], env, i, s, hl, _, _ => by simp at hl
  | .val t :: r, o :: os, env, i, s, hl, nd, h => by
    unfold back at h
    unfold lent at nd
    rcases back_at r os env i s (by simpa using hl) nd h with ⟨h1, h2⟩ | h1 | ⟨j, m, m', ds, es, h1, h2, h3⟩
    · exact .inl ⟨by unfold lent; exact h1, h2⟩
    · exact .inr (.inl h1)
    · exact .inr (.inr ⟨j + 1, m, m', ds, es, by simpa using h1, by simpa using h2, h3⟩)
  | .var i0 :: r, o :: os, env, i, s, hl, nd, h => by
    unfold back at h
    unfold lent at nd
    obtain ⟨n1, n2⟩ := List.nodup_cons.mp nd
    rcases back_at r os _ i s (by simpa using hl) n2 h with ⟨h1, h2⟩ | h1 | ⟨j, m, m', ds, es, h1, h2, h3, h4⟩
    · rcases set_at h2 with ⟨rfl, e, _⟩ | ⟨ne, h2⟩
      · split at e
        · rename_i m' ds m es q
          exact .inr (.inr ⟨0, m, m', ds, es, rfl, rfl, q, e⟩)
        · exact .inr (.inl e)
      · exact .inl ⟨by unfold lent; simp [ne, h1], h2⟩
    · exact .inr (.inl h1)
    · have ne : i ≠ i0 := fun z => n1 (by rw [← z]; exact lent_mem h1)
      rw [List.getElem?_set_ne (Ne.symm ne)] at h3
      exact .inr (.inr ⟨j + 1, m, m', ds, es, by simpa using h1, by simpa using h2, h3, h4⟩)
section
variable {K : Fg} {B : Nat → Option Addr} {Fr G G' : Hp} {env : En} {σ : Sg} {H H' : Hp} {as : List Ar} {args outs : List Sl} {vs : List V}
theorem Paired.at {α β : Type} {F : α → β → Prop} : ∀ {xs : List α} {ys : List β} {i : Nat} {y : β}, PySem.Paired F xs ys → ys[i]? = some y → ∃ x, xs[i]? = some x ∧ F x y
  | _, _, _, _, .nil, e => by simp at e
  | _, _, 0, _, .cons r _, e => by simp at e; subst e; exact ⟨_, rfl, r⟩
  | _, _, i + 1, y, .cons _ t, e => by
    obtain ⟨x, h1, h2⟩ := Paired.at (i := i) (y := y) t (by simpa using e)
    exact ⟨x, by simpa using h1, h2⟩
/-- an address that is lent -/
def Lent (env : En) (σ : Sg) (as : List Ar) (a : Addr) : Prop := ∃ i m ds, i ∈ lent as ∧ env[i]? = some (.own m ds) ∧ σ[i]? = some (some (.ref a))
open Classical in
noncomputable def frC (G H : Hp) (L : Addr → Prop) : Hp := fun a => if G a = none ∧ ¬ L a then H a else none
theorem frC_in {G H : Hp} {L : Addr → Prop} {a : Addr} {o : HO} (h : frC G H L a = some o) : G a = none ∧ ¬ L a ∧ H a = some o := by
  unfold frC at h
  split at h
  · rename_i c; exact ⟨c.1, c.2, h⟩
  · cases h
theorem frC_of {G H : Hp} {L : Addr → Prop} {a : Addr} {o : HO} (h1 : G a = none) (h2 : ¬ L a) (h3 : H a = some o) : frC G H L a = some o := by
  unfold frC
  rw [if_pos ⟨h1, h2⟩]
  exact h3
theorem frC_none {G H : Hp} {L : Addr → Prop} {a : Addr} (h : G a ≠ none ∨ L a) : frC G H L a = none := by
  unfold frC
  rw [if_neg]
  intro c
  rcases h with h | h
  · exact h c.1
  · exact c.2 h
def bC (vs : List V) : Nat → Option Addr := fun j => match vs[j]? with
  | some (.ref a) => some a
  | _ => none
/-- the callee's state at its entry -/
theorem Gh.lend (g : Gh K B Fr G env σ H) (r : RaAll K G σ vs as) (h : lend env as = some args) (nd : (lent as).Nodup) : Gh K (bC vs) (frC G H (Lent env σ as)) G args (vs.map some) H := by
  obtain ⟨hl, at_⟩ := lend_at h
  have own_ : ∀ {j : Nat} {m : Md} {ds : List D}, args[j]? = some (.own m ds) → m = .bor ∧ ∃ i n a xs, as[j]? = some (.var i) ∧ env[i]? = some (.own n ds) ∧ vs[j]? = some (.ref a) ∧ σ[i]? = some (some (.ref a)) ∧ H a = some (.lst xs) ∧ RpAll K G xs ds ∧ G a = none ∧ Fr a = none := fun {j m ds} e => by
    rcases at_ j _ e with z | ⟨i, n, es, z1, z2, z3, z4⟩
    · obtain ⟨v, _, q⟩ := Paired.at r z
      exact (show False from q).elim
    · cases z4
      obtain ⟨v, hv, q⟩ := Paired.at r z1
      obtain ⟨a, xs, h1, h2, h3, h4, h5, _⟩ := g.own i n ds z2
      have q' : σ[i]? = some (some v) := q
      rw [h1] at q'; cases q'
      exact ⟨rfl, i, n, a, xs, z1, z2, hv, h1, h2, h3, h4, h5⟩
  refine ⟨g.gs, fun a o e => (frC_in e).2.2, fun a o e => frC_none (.inl (by rw [e]; simp)), ?_, fun j d e => ?_, fun j ns e => ?_, fun j m ds e => ?_, fun j j' m n ds es a e1 e2 s1 s2 => ?_⟩
  · rw [hl, List.length_map]
    exact (Paired.length r).symm
  · rcases at_ j _ e with z | ⟨i, n, es, z1, z2, z3, z4⟩
    · obtain ⟨v, hv, q⟩ := Paired.at r z
      exact ⟨v, by rw [List.getElem?_map, hv]; rfl, q⟩
    · cases z4
  · rcases at_ j _ e with z | ⟨i, n, es, z1, z2, z3, z4⟩
    · obtain ⟨v, hv, a, rfl, q⟩ := Paired.at r z
      exact ⟨a, by rw [List.getElem?_map, hv]; rfl, q⟩
    · cases z4
  · obtain ⟨rfl, i, n, a, xs, z1, z2, hv, hs, h2, h3, h4, h5⟩ := own_ e
    exact ⟨a, xs, by rw [List.getElem?_map, hv]; rfl, h2, h3, h4, frC_none (.inr ⟨i, n, ds, lent_mem z1, z2, hs⟩), fun _ => by unfold bC; rw [hv]⟩
  · obtain ⟨_, i, n1, a1, _, z1, z2, hv, hs, _⟩ := own_ e1
    obtain ⟨_, i', n2, a2, _, w1, w2, hv', hs', _⟩ := own_ e2
    rw [List.getElem?_map, hv] at s1
    rw [List.getElem?_map, hv'] at s2
    cases s1
    cases s2
    have := g.ap i i' _ _ _ _ _ z2 w2 hs hs'
    subst this
    exact lent_inj nd z1 w1
/-- behind the call -/
theorem Gh.back (g : Gh K B Fr G env σ H) (r : RaAll K G σ vs as) (nd : (lent as).Nodup) (s : Same G G') (c : Gh K (bC vs) (frC G H (Lent env σ as)) G' outs (vs.map some) H') :
    Gh K B Fr G' (back env as outs) σ H' ∧ ∀ rs v, Rr K (frC G H (Lent env σ as)) G' outs (vs.map some) H' v rs → Rr K Fr G' (DL.back env as outs) σ H' v rs := by
  have hl : outs.length = as.length := by
    have e1 := c.len
    rw [List.length_map] at e1
    have e2 := Paired.length r
    omega
  have lentF : ∀ a, Lent env σ as a → Fr a = none := fun a ⟨i, m, ds, _, h1, h2⟩ => by
    obtain ⟨b, _, k1, _, _, _, k5, _⟩ := g.own i m ds h1
    rw [h2] at k1; cases k1; exact k5
  have frIn : ∀ a o, Fr a = some o → frC G H (Lent env σ as) a = some o := fun a o e => by
    refine frC_of ?_ (fun z => ?_) (g.fs a o e)
    · cases q : G a with
      | none => rfl
      | some x => rw [g.dj a x q] at e; cases e
    · rw [lentF a z] at e; cases e
  have at_ := back_at as outs env
  have own_ : ∀ {i : Nat} {m : Md} {ds : List D}, (DL.back env as outs)[i]? = some (.own m ds) → ∃ es, env[i]? = some (.own m es) ∧ ∃ a xs, σ[i]? = some (some (.ref a)) ∧ H' a = some (.lst xs) ∧ RpAll K G' xs ds ∧ G' a = none ∧ Fr a = none ∧ (m ≠ .free → B i = some a) ∧
      ((i ∉ lent as ∧ frC G H (Lent env σ as) a ≠ none) ∨ ∃ (j : Nat) (m' : Md), outs[j]? = some (Sl.own m' ds) ∧ (vs.map some)[j]? = some (some (V.ref a))) := fun {i m ds} e => by
    rcases at_ i _ hl nd e with ⟨h1, h2⟩ | h1 | ⟨j, m1, m', ds', es, h1, h2, h3, h4⟩
    · obtain ⟨a, xs, k1, k2, k3, k4, k5, k6⟩ := g.own i m ds h2
      have hn : ¬ Lent env σ as a := fun ⟨i', n, es, q1, q2, q3⟩ => h1 (by rw [g.ap i i' m n ds es a h2 q2 k1 q3]; exact q1)
      have hf := frC_of k4 hn k2
      refine ⟨ds, h2, a, xs, k1, c.fs _ _ hf, k3.mono s, ?_, k5, k6, .inl ⟨h1, by rw [hf]; simp⟩⟩
      cases q : G' a with
      | none => rfl
      | some x => rw [c.dj a x q] at hf; cases hf
    · cases h1
    · cases h4
      obtain ⟨a, xs, k1, k2, k3, k4, k5, k6⟩ := c.own j m' ds h2
      obtain ⟨b, _, q1, _, _, _, q5, q6⟩ := g.own i m es h3
      obtain ⟨v, hv, q⟩ := Paired.at r h1
      have k1' := k1
      rw [List.getElem?_map, hv] at k1'
      cases k1'
      have q' : σ[i]? = some (some (.ref a)) := q
      rw [q1] at q'; cases q'
      exact ⟨es, h3, a, xs, q1, k2, k3, k4, q5, q6, .inr ⟨j, m', h2, k1⟩⟩
  refine ⟨⟨c.gs, fun a o e => c.fs a o (frIn a o e), fun a o e => ?_, ?_, fun i d e => ?_, fun i ns e => ?_, fun i m ds e => ?_, fun i j m n ds es a e1 e2 s1 s2 => ?_⟩, fun rs v h => ?_⟩
  · cases q : Fr a with
    | none => rfl
    | some x => have := frIn a x q; rw [c.dj a o e] at this; cases this
  · rw [back_length, g.len]
  · rcases at_ i _ hl nd e with ⟨_, h2⟩ | h1 | ⟨_, _, _, _, _, _, _, _, h4⟩
    · obtain ⟨v, k1, k2⟩ := g.val i d h2
      exact ⟨v, k1, k2.mono s⟩
    · cases h1
    · cases h4
  · rcases at_ i _ hl nd e with ⟨_, h2⟩ | h1 | ⟨_, _, _, _, _, _, _, _, h4⟩
    · obtain ⟨v, k1, k2⟩ := g.scr i ns h2
      exact ⟨v, k1, sqL_mono s k2⟩
    · cases h1
    · cases h4
  · obtain ⟨es, _, a, xs, k1, k2, k3, k4, k5, k6, _⟩ := own_ e
    exact ⟨a, xs, k1, k2, k3, k4, k5, k6⟩
  · obtain ⟨ds', h1, _⟩ := own_ e1
    obtain ⟨es', h2, _⟩ := own_ e2
    exact g.ap i j m n ds' es' a h1 h2 s1 s2
  · cases rs with
    | val d => exact h
    | scr ns => exact h
    | no => exact h
    | own m ds =>
      obtain ⟨rfl, a, xs, rfl, k2, k3, k4, k5, k6⟩ := h
      refine ⟨rfl, a, xs, rfl, k2, k3, k4, ?_, fun i m es e z => ?_⟩
      · cases q : Fr a with
        | none => rfl
        | some x => rw [frIn a x q] at k5; cases k5
      · obtain ⟨_, _, b, ys, q1, _, _, _, _, _, q⟩ := own_ e
        rw [q1] at z; cases z
        rcases q with ⟨_, q⟩ | ⟨j, m', q2, q3⟩
        · exact q k5
        · exact k6 j m' es q2 q3
end
theorem fits_length : ∀ {rs : List Bool} {as : List Sl}, fits rs as → as.length = rs.length
  | [], [], _ => rfl
  | [], _ :: _, h => by cases h
  | true :: rs, [], h => by cases h
  | false :: rs, [], h => by cases h
  | true :: rs, .own .bor _ :: as, h => by
    have h' : fits rs as := h
    simp [fits_length h']
  | true :: rs, .own .free _ :: as, h => (show False from h).elim
  | true :: rs, .own .lck _ :: as, h => (show False from h).elim
  | true :: rs, .no :: as, h => (show False from h).elim
  | true :: rs, .val _ :: as, h => (show False from h).elim
  | true :: rs, .scr _ :: as, h => (show False from h).elim
  | false :: rs, s :: as, h => by
    have h' : okSl s ∧ fits rs as := h
    simp [fits_length h'.2]
section
variable {X : Cx} {p pos : Pos} {x : Str} {es : List Expr}
theorem call_fin {K : Fg} {B : Nat → Option Addr} {Fr G : Hp} {env : En} {σ : Sg} {H : Hp} {s : Stat} {k f : Nat} {c : Fn} (hc : s.fns[f]? = some c) {as : List Ar} {vs : List V} {P : QK} {Q : VK} (g1 : Gh K B Fr G env σ H) (ra : RaAll K G σ vs as)
    (p : (lent as).Nodup ∧ oP (lend env as) fun args => stp (wCall s.fns k f args fun r outs => P r (back env as outs))) (q : ∀ r env' v H' G', P r env' → Same G G' → Gh K B Fr G' env' σ H' → Rr K Fr G' env' σ H' v r → Q v H') :
    spF K c.np (wCall s.fns k f) (vs ++ []) H Q E0 := by
  obtain ⟨nd, p⟩ := p
  obtain ⟨args, el, p⟩ := oP_some p
  replace p := stp_get p
  rw [List.append_nil]
  have hlen : vs.length = c.np := by
    obtain ⟨hl, _⟩ := lend_at el
    have e2 := Paired.length ra
    cases k with
    | zero => exact (show False from p).elim
    | succ k =>
      have p' : oP s.fns[f]? fun c => fits c.refs args ∧ _ := p
      rw [hc] at p'
      have := fits_length p'.1
      unfold Fn.np
      omega
  refine ⟨hlen, bC vs, frC G H (Lent env σ as), G, args, _, g1.lend ra el nd, p, fun r os v H' G' p2 s2 g2 rr => ?_⟩
  obtain ⟨g3, rr3⟩ := g1.back ra nd s2 g2
  exact q r _ v H' G' p2 s2 g3 (rr3 r v rr)
theorem call_of {K : Fg} {s : Stat} {k f : Nat} {c : Fn} (hc : s.fns[f]? = some c) {as : En → (List Ar → En → Prop) → Prop} :
    ∀ σ H Q, tE K (mCall (wCall s.fns k) f as) σ H Q → tCall (spF K c.np (wCall s.fns k f)) [] E0 (tAr K as) σ H Q := by
  rintro σ H Q ⟨B, Fr, G, env, P, g, hw, q⟩
  exact ⟨B, Fr, G, env, _, g, hw, fun as e1 vs H1 G1 p s1 g1 ra => call_fin hc g1 ra p fun r e2 v H' G' p2 s2 g2 rr => q r e2 v H' G' p2 (s1.trans s2) g2 rr⟩
theorem call0_of {K : Fg} {s : Stat} {k f : Nat} {c : Fn} (hc : s.fns[f]? = some c) {C : Prop} :
    ∀ σ H Q, tE K (mCall (wCall s.fns k) f fun env Q => C ∧ Q [] env) σ H Q → tCall (spF K c.np (wCall s.fns k f)) [] E0 tNil σ H Q := by
  rintro σ H Q ⟨B, Fr, G, env, P, g, hw, q⟩
  exact call_fin (vs := []) hc g .nil hw.2 q
theorem pe_callD {T : Tab} {N : List Str} {sc : Scope} {s : Stat} {k f : Nat} {c : Fn} (cx : Cxt T k N sc X) (hc : s.fns[f]? = some c) (F : FnF s T k f c) (hn : s.names[f]? = some x) (hg : Gl X x) (ho : okN x = true) {as : En → (List Ar → En → Prop) → Prop}
    (hs : ∀ y ∈ es, notStar y = true) (h0 : es ≠ []) (ha : PA X es (tAr X.K as)) : PE X (.Call (.Name x p) es [] pos) (tE X.K (mCall (wCall s.fns k) f as)) := by
  obtain ⟨x', a, fd, ps, h1, h2, h3, h4, h5, h6⟩ := F.ok
  rw [hn] at h1; cases h1
  rw [← cx.prog, ← cx.w, ← cx.K, ← cx.mg, ← cx.base] at h6
  rw [← cx.mg] at h2
  rw [← cx.K] at h3 h4
  refine pe_imp ?_ (call_of hc)
  cases es with
  | nil => exact absurd rfl h0
  | cons e es =>
    have he := notStar_each (notStar_ok (hs e List.mem_cons_self)) es X.env
    refine pe_call h6 cx.room hg h2 h3 h4 .nil pass0 ha (okN_d ho).1 he ?_
    have all : ∀ l : List Expr, (∀ y ∈ l, notStar y = true) → (backTo pos (starEach l X.env)).any (·.1) = false := by
      intro l
      induction l with
      | nil => intro _; rfl
      | cons y l ih =>
        intro h
        rw [notStar_each (notStar_ok (h y List.mem_cons_self)) l X.env]
        exact ih fun z hz => h z (List.mem_cons_of_mem _ hz)
    exact all es fun y hy => hs y (List.mem_cons_of_mem _ hy)
theorem pe_call0D {T : Tab} {N : List Str} {sc : Scope} {s : Stat} {k f : Nat} {c : Fn} (cx : Cxt T k N sc X) (hc : s.fns[f]? = some c) (F : FnF s T k f c) (hn : s.names[f]? = some x) (hg : Gl X x) (ho : okN x = true) {C : Prop} :
    PE X (.Call (.Name x p) [] [] pos) (tE X.K (mCall (wCall s.fns k) f fun env Q => C ∧ Q [] env)) := by
  obtain ⟨x', a, fd, ps, h1, h2, h3, h4, h5, h6⟩ := F.ok
  rw [hn] at h1; cases h1
  rw [← cx.prog, ← cx.w, ← cx.K, ← cx.mg, ← cx.base] at h6
  rw [← cx.mg] at h2
  rw [← cx.K] at h3 h4
  exact pe_imp (pe_call0 h6 cx.room hg h2 h3 h4 .nil pass0 (okN_d ho).1) (call0_of hc)
end
end DL

set_option Elab.async false
set_option linter.all false
set_option maxRecDepth 100000
set_option maxHeartbeats 4000000
/-! DLk: every expression that matches a term means what the term means. -/
namespace DL
open PySem PySem.Spec PyProof.Rows L2
section
variable {s : Stat} {T : Tab} {k : Nat} {N : List Str}
abbrev wE' (s : Stat) (k : Nat) (e : E) : WE := wE (wCall s.fns k) (refsOf s) e
abbrev wT' (s : Stat) (k : Nat) (e : E) : WB := wT (wCall s.fns k) (refsOf s) e
theorem h_of {sc : Scope} {X : Cx} {e : E} {x : Expr} {w : WE} (h : mE s N sc e x = true) (c : Cxt T k N sc X) (he : PE X x (tE X.K w)) : PE X x (tH X.K (opO e w)) := by
  cases e with
  | v i =>
    unfold mE at h
    obtain ⟨id, e, h⟩ := ob_t h
    obtain ⟨p, rfl⟩ := vName_ok e
    obtain ⟨h, h3⟩ := an h
    obtain ⟨h1, h2⟩ := an h
    exact pe_vH (by rw [c.xN]; exact of_decide_eq_true h1) (c.vis h2) (okN_d h3).1 (okN_d h3).2
  | _ => exact pe_imp he (tH_of fun i z => by cases z)
theorem d_of {X : Cx} {x : Expr} {w : WE} (he : PE X x (tE X.K w)) : PE X x (tD X.K (opD w)) := pe_imp he tD_of
theorem pt_none {X : Cx} {x : Expr} {w : WB} (h : ∀ env Q, ¬ w env Q) : PT X x (tW X.K w) := ⟨fun pins s σ H Q I ⟨B, Fr, G, env, P, g, hw, q⟩ => absurd hw (h _ _)⟩
theorem mEs_star : ∀ (es : Es) {sc : Scope} {xs : List Expr}, mEs s N sc es xs = true → ∀ y ∈ xs, notStar y = true
  | .nil, sc, [], _, y, hy => by simp at hy
  | .nil, sc, _ :: _, h, _, _ => by unfold mEs at h; cases h
  | .cons e es, sc, [], h, _, _ => by unfold mEs at h; cases h
  | .cons e es, sc, x :: xs, h, y, hy => by
    unfold mEs at h
    obtain ⟨h, h3⟩ := an h
    obtain ⟨h1, h2⟩ := an h
    rcases List.mem_cons.mp hy with rfl | hy
    · exact h1
    · exact mEs_star es h3 y hy
theorem pe_isDx {X : Cx} {a b : Expr} {n : Bool} {d : D} {wa : WH} {pos : Pos} (hd : isB d = true) (hc : ∃ c k p, b = .Constant c k p ∧ mC d c = true) (ha : PE X a (tH X.K wa)) : PE X (.Compare a [opI n] [b] pos) (tWv X.K (mIs n wa d)) ∧ PT X (.Compare a [opI n] [b] pos) (tW X.K (mIs n wa d)) := by
  obtain ⟨c, k, p, rfl, hm⟩ := hc
  have hb : behindInMarks (opI n) (.Constant c k p) = false := by cases n <;> rfl
  cases d <;> cases c <;> first
    | (cases hm; done)
    | (cases hd; done)
    | exact ⟨pe_isD ha pe_non (fun σ H Q h => h) hb, pt_isD ha pe_non (fun σ H Q h => h) hb⟩
    | (rename_i b1 b2
       have e : b1 = b2 := eq_of_beq hm
       subst e
       exact ⟨pe_isD ha pe_bl (fun σ H Q h => h) hb, pt_isD ha pe_bl (fun σ H Q h => h) hb⟩)
theorem mem_free {l : List Str} {x : Str} (h : l.contains x = true) : l.contains x = true := h
set_option maxHeartbeats 16000000
mutual
theorem sE (t : TabOk s T k) : ∀ (e : E) {sc : Scope} {x : Expr} {X : Cx}, mE s N sc e x = true → Cxt T k N sc X → PE X x (tE X.K (wE' s k e))
  | .c d, sc, x, X, h, c => by
    unfold mE at h
    obtain ⟨z, e, h⟩ := ob_t h
    obtain ⟨n, p, rfl⟩ := vConst_ok e
    unfold wE' wE
    exact pe_cD h
  | .g n d, sc, x, X, h, c => by
    unfold mE at h
    obtain ⟨id, e, h⟩ := ob_t h
    obtain ⟨p, rfl⟩ := vName_ok e
    obtain ⟨h, h4⟩ := an h
    obtain ⟨h, h3⟩ := an h
    obtain ⟨h1, h2⟩ := an h
    obtain ⟨⟨n', d'⟩, hm, h4⟩ := List.any_eq_true.mp h4
    obtain ⟨h5, h6⟩ := an h4
    have e1 : id = n := of_decide_eq_true h1
    have e2 : n' = n := of_decide_eq_true h5
    have e3 : d' = d := eqD_ok h6
    subst e1 e2 e3
    obtain ⟨u, v, g1, g2, g3⟩ := t.gl _ hm
    unfold wE' wE
    refine pe_imp (pe_glob (c.glb h2) (by rw [c.mg]; exact g1) g2 (okN_d h3).1) ?_
    rintro σ H Q ⟨B, Fr, G, env, P, g, hw, q⟩
    exact q _ _ _ _ _ hw (Same.refl G) g (by have := g3 G; rw [← c.K] at this; exact this)
  | .v i, sc, x, X, h, c => by
    unfold mE at h
    obtain ⟨id, e, h⟩ := ob_t h
    obtain ⟨p, rfl⟩ := vName_ok e
    obtain ⟨h, h3⟩ := an h
    obtain ⟨h1, h2⟩ := an h
    unfold wE' wE
    exact pe_vE (by rw [c.xN]; exact of_decide_eq_true h1) (c.vis h2) (okN_d h3).1 (okN_d h3).2
  | .bin o a b, sc, x, X, h, c => by
    unfold mE at h
    obtain ⟨⟨l, op, r⟩, e, h⟩ := ob_t h
    obtain ⟨p, rfl⟩ := vBin_ok e
    obtain ⟨h, h3⟩ := an h
    obtain ⟨h1, h2⟩ := an h
    have e1 : op = opB o := of_decide_eq_true h1
    subst e1
    unfold wE' wE
    exact pe_bin o (h_of h2 c (sE t a h2 c)) (h_of h3 c (sE t b h3 c))
  | .neg a, sc, x, X, h, c => by
    unfold mE at h
    obtain ⟨l, e, h⟩ := ob_t h
    obtain ⟨p, rfl⟩ := vNeg_ok e
    unfold wE' wE
    exact pe_negD (d_of (sE t a h c))
  | .cmp o a b, sc, x, X, h, c => by
    unfold mE at h
    obtain ⟨⟨l, op, r⟩, e, h⟩ := ob_t h
    obtain ⟨p, rfl⟩ := vCmp_ok e
    obtain ⟨h, h4⟩ := an h
    obtain ⟨h, h3⟩ := an h
    obtain ⟨h1, h2⟩ := an h
    have e1 : op = opC o := of_decide_eq_true h1
    subst e1
    unfold wE' wE
    exact pe_imp (pe_cmpD c.hu o (h_of h3 c (sE t a h3 c)) (h_of h4 c (sE t b h4 c)) (notSet_in h2 _)) wv_e
  | .chain o o' a b d, sc, x, X, h, c => by
    unfold mE at h
    obtain ⟨⟨l, op, op', r, z⟩, e, h⟩ := ob_t h
    obtain ⟨p, rfl⟩ := vChain_ok e
    obtain ⟨h, h6⟩ := an h
    obtain ⟨h, h5⟩ := an h
    obtain ⟨h, h4⟩ := an h
    obtain ⟨h, h3⟩ := an h
    obtain ⟨h1, h2⟩ := an h
    have e1 : op = opC o := of_decide_eq_true h1
    have e2 : op' = opC o' := of_decide_eq_true h2
    subst e1 e2
    unfold wE' wE
    exact pe_imp (pe_chainD c.hu o o' (h_of h4 c (sE t a h4 c)) (h_of h5 c (sE t b h5 c)) (h_of h6 c (sE t d h6 c)) (notSet_in h3 _)) wv_e
  | .chain3 o o' o2 a b d u, sc, x, X, h, c => by
    unfold mE at h
    obtain ⟨⟨l, op, op', op2, r, z, y⟩, e, h⟩ := ob_t h
    obtain ⟨p, rfl⟩ := vChain3_ok e
    obtain ⟨h, h8⟩ := an h
    obtain ⟨h, h7⟩ := an h
    obtain ⟨h, h6⟩ := an h
    obtain ⟨h, h5⟩ := an h
    obtain ⟨h, h4⟩ := an h
    obtain ⟨h, h3⟩ := an h
    obtain ⟨h1, h2⟩ := an h
    have e1 : op = opC o := of_decide_eq_true h1
    have e2 : op' = opC o' := of_decide_eq_true h2
    have e3 : op2 = opC o2 := of_decide_eq_true h3
    subst e1 e2 e3
    unfold wE' wE
    exact pe_imp (pe_chain3D c.hu o o' o2 (h_of h5 c (sE t a h5 c)) (h_of h6 c (sE t b h6 c)) (h_of h7 c (sE t d h7 c)) (h_of h8 c (sE t u h8 c)) (notSet_in h4 _)) wv_e
  | .isc n a d, sc, x, X, h, c => by
    unfold mE at h
    obtain ⟨⟨l, op, r⟩, e, h⟩ := ob_t h
    obtain ⟨p, rfl⟩ := vCmp_ok e
    obtain ⟨h, h4⟩ := an h
    obtain ⟨h, h3⟩ := an h
    obtain ⟨h1, h2⟩ := an h
    have e1 : op = opI n := of_decide_eq_true h1
    subst e1
    obtain ⟨z, e2, h4⟩ := ob_t h4
    obtain ⟨n', p', e3⟩ := vConst_ok e2
    unfold wE' wE
    exact pe_imp (pe_isDx h2 ⟨z, n', p', e3, h4⟩ (h_of h3 c (sE t a h3 c))).1 wv_e
  | .and a b, sc, x, X, h, c => by
    unfold mE at h
    obtain ⟨⟨l, r⟩, e, h⟩ := ob_t h
    obtain ⟨h1, h2⟩ := an h
    unfold wE' wE
    rcases vAnd_ok e with ⟨p, rfl⟩ | ⟨y, z, l', p, rfl, e2⟩
    · exact pe_andD (d_of (sE t a h1 c)) (pe_one (sE t b h2 c))
    · have q := sE t b h2 c
      simp only at e2
      rw [e2] at q
      exact pe_andD (d_of (sE t a h1 c)) q
  | .or a b, sc, x, X, h, c => by
    unfold mE at h
    obtain ⟨⟨l, r⟩, e, h⟩ := ob_t h
    obtain ⟨h1, h2⟩ := an h
    unfold wE' wE
    rcases vOr_ok e with ⟨p, rfl⟩ | ⟨y, z, l', p, rfl, e2⟩
    · exact pe_orD (d_of (sE t a h1 c)) (pe_one (sE t b h2 c))
    · have q := sE t b h2 c
      simp only at e2
      rw [e2] at q
      exact pe_orD (d_of (sE t a h1 c)) q
  | .not a, sc, x, X, h, c => by
    unfold mE at h
    obtain ⟨l, e, h⟩ := ob_t h
    obtain ⟨p, rfl⟩ := vNot_ok e
    unfold wE' wE
    exact pe_notD (h_of h c (sE t a h c))
  | .ite q a b, sc, x, X, h, c => by
    unfold mE at h
    obtain ⟨⟨l, r, z⟩, e, h⟩ := ob_t h
    obtain ⟨p, rfl⟩ := vIf_ok e
    obtain ⟨h, h3⟩ := an h
    obtain ⟨h1, h2⟩ := an h
    unfold wE' wE
    exact pe_ifD (sT t q h1 c).1 (sE t a h2 c) (sE t b h3 c)
  | .tup es, sc, x, X, h, c => by
    unfold mE at h
    obtain ⟨l, e, h⟩ := ob_t h
    obtain ⟨n, p, rfl⟩ := vTup_ok e
    unfold wE' wE
    exact pe_tupD (sEs t es h c)
  | .lst es, sc, x, X, h, c => by
    unfold mE at h
    obtain ⟨l, e, h⟩ := ob_t h
    obtain ⟨p, rfl⟩ := vLst_ok e
    unfold wE' wE
    exact pe_lstD (sEs t es h c)
  | .ix a i, sc, x, X, h, c => by
    unfold mE at h
    obtain ⟨⟨l, r⟩, e, h⟩ := ob_t h
    obtain ⟨h1, h2⟩ := an h
    obtain ⟨p, rfl, hp⟩ := vIx_ok e
    unfold wE' wE
    exact pe_ixD (h_of h1 c (sE t a h1 c)) (d_of (sE t i h2 c)) hp
  | .sl a lo hi, sc, x, X, h, c => by
    unfold mE at h
    obtain ⟨⟨l, r, z⟩, e, h⟩ := ob_t h
    obtain ⟨p, p', rfl⟩ := vSl_ok e
    obtain ⟨h, h3⟩ := an h
    obtain ⟨h1, h2⟩ := an h
    unfold wE' wE
    exact pe_slD (h_of h1 c (sE t a h1 c)) (sEo t lo h2 c) (sEo t hi h3 c)
  | .rev a, sc, x, X, h, c => by
    unfold mE at h
    obtain ⟨l, e, h⟩ := ob_t h
    obtain ⟨n, p1, p2, p3, p4, rfl⟩ := vRev_ok e
    unfold wE' wE
    exact pe_revD (h_of h c (sE t a h c))
  | .isi a ty, sc, x, X, h, c => by
    unfold mE at h
    obtain ⟨⟨id, l⟩, e, h⟩ := ob_t h
    obtain ⟨p, p', rfl⟩ := vCall_ok e
    obtain ⟨h, h4⟩ := an h
    obtain ⟨h, h3⟩ := an h
    obtain ⟨h1, h2⟩ := an h
    have e1 : id = ("isinstance" : Str) := of_decide_eq_true h1
    simp only at h4 e1 h2 h3 ⊢
    split at h4
    · obtain ⟨h4, h5⟩ := an h4
      obtain ⟨h6, h7⟩ := an h4
      obtain ⟨id2, e2, h5⟩ := ob_t h5
      obtain ⟨p2, rfl⟩ := vName_ok e2
      obtain ⟨h5, h8⟩ := an h5
      obtain ⟨h9, h10⟩ := an h5
      have e3 : id2 = tyS ty := of_decide_eq_true h9
      subst e1 e3
      unfold wE' wE
      exact pe_imp (pe_isiD (c.glb h2) (by rw [c.mg]; exact t.free _ h3) (c.glb h10) (by rw [c.mg]; exact t.free _ h8) (notStar_ok h6) (h_of h7 c (sE t a h7 c))) wv_e
    · cases h4
  | .bi1 b a, sc, x, X, h, c => by
    unfold mE at h
    obtain ⟨⟨id, l⟩, e, h⟩ := ob_t h
    obtain ⟨p, p', rfl⟩ := vCall_ok e
    obtain ⟨h, h5⟩ := an h
    obtain ⟨h, h4⟩ := an h
    obtain ⟨h, h3⟩ := an h
    obtain ⟨h1, h2⟩ := an h
    have e1 : id = biS b := of_decide_eq_true h1
    simp only at h5 e1 h3 h4 ⊢
    split at h5
    · obtain ⟨h6, h7⟩ := an h5
      subst e1
      unfold wE' wE
      exact pe_bi1 c.calm c.hu (of_decide_eq_true h2) (c.glb h3) (by rw [c.mg]; exact t.free _ h4) (notStar_ok h6) (h_of h7 c (sE t a h7 c))
    · cases h5
  | .bi2 b a a', sc, x, X, h, c => by
    unfold mE at h
    obtain ⟨⟨id, l⟩, e, h⟩ := ob_t h
    obtain ⟨p, p', rfl⟩ := vCall_ok e
    obtain ⟨h, h5⟩ := an h
    obtain ⟨h, h4⟩ := an h
    obtain ⟨h, h3⟩ := an h
    obtain ⟨h1, h2⟩ := an h
    have e1 : id = biS b := of_decide_eq_true h1
    simp only at h5 e1 h3 h4 ⊢
    split at h5
    · obtain ⟨h5, h9⟩ := an h5
      obtain ⟨h5, h8⟩ := an h5
      obtain ⟨h6, h7⟩ := an h5
      subst e1
      unfold wE' wE
      exact pe_bi2 c.calm (of_decide_eq_true h2) (c.glb h3) (by rw [c.mg]; exact t.free _ h4) (notStar_ok h6) (notStar_ok h7) (h_of h8 c (sE t a h8 c)) (h_of h9 c (sE t a' h9 c))
    · cases h5
  | .call f es, sc, x, X, h, c => by
    unfold mE at h
    obtain ⟨⟨id, l⟩, e0, h⟩ := ob_t h
    obtain ⟨p, p', rfl⟩ := vCall_ok e0
    obtain ⟨h, h4⟩ := an h
    obtain ⟨h, h3⟩ := an h
    obtain ⟨h1, h2⟩ := an h
    have e1 : s.names[f]? = some id := of_decide_eq_true h1
    unfold wE' wE
    cases hf : s.fns[f]? with
    | none =>
      refine ⟨fun pins s' σ H Q I h => ?_⟩
      obtain ⟨B, Fr, G, env, P, g, hw, q⟩ := h
      refine absurd hw ?_
      intro hw
      have dead : ∀ args R, ¬ wCall s.fns k f args R := fun args R z => by
        cases k with
        | zero => exact z
        | succ k =>
          have z' : oP s.fns[f]? _ := z
          rw [hf] at z'
          exact z'
      have hr : refsOf s f = [] := by unfold refsOf; rw [hf]; rfl
      unfold mCall at hw
      rw [hr] at hw
      cases es with
      | nil =>
        unfold wAs at hw
        obtain ⟨_, _, hw⟩ := hw
        obtain ⟨args, _, hw⟩ := oP_some hw
        exact dead _ _ (stp_get hw)
      | cons e es => unfold wAs at hw; exact hw
    | some fc =>
      cases es with
      | nil =>
        cases l with
        | nil =>
          unfold wAs
          exact pe_call0D c hf (t.fn f fc hf) e1 (c.glb h2) h3
        | cons y ys => unfold mEs at h4; cases h4
      | cons e es =>
        cases l with
        | nil => unfold mEs at h4; cases h4
        | cons y ys => exact pe_callD c hf (t.fn f fc hf) e1 (c.glb h2) h3 (mEs_star _ h4) (by simp) (sAs t _ (.cons e es) h4 c)
  | .lc e g it q own, sc, x, X, h, c => by
    unfold mE at h
    obtain ⟨⟨elt, tg, iter, ifs, scope⟩, e0, h⟩ := ob_t h
    obtain ⟨p, rfl⟩ := vLc_ok e0
    obtain ⟨h, h7⟩ := an h
    obtain ⟨h, h6⟩ := an h
    obtain ⟨h, h5⟩ := an h
    obtain ⟨h, h4⟩ := an h
    obtain ⟨h, h3⟩ := an h
    obtain ⟨h1, h2⟩ := an h
    have ok := c.blkOk h1
    have cb := fun s' H C cl fp => c.blk (scope := scope) (blkOk_by h1).kind s' H C cl fp
    unfold wE' wE
    refine pe_lcD (ownN := own.map fun i => (N.getD i Str.empty, i)) (by simp [Function.comp_def]) (of_decide_eq_true h2) c.calm (by rw [c.xN]; exact c.nd) (sIt t it h5 c) ok
      (fun s' H C cl fp => sTg g h3 (cb s' H C cl fp)) (fun s' H C cl fp => sTo t q h6 (cb s' H C cl fp)) (fun s' H C cl fp => d_of (sE t e h7 (cb s' H C cl fp))) (notSet_fold h4 X.env)
theorem sT (t : TabOk s T k) : ∀ (e : E) {sc : Scope} {x : Expr} {X : Cx}, mE s N sc e x = true → Cxt T k N sc X → PT X x (tW X.K (wT' s k e)) ∧ (isBool x = true → PW X x (tW X.K (wT' s k e)))
  | .and a b, sc, x, X, h, c => by
    unfold mE at h
    obtain ⟨⟨l, r⟩, e, h⟩ := ob_t h
    obtain ⟨h1, h2⟩ := an h
    unfold wT' wT
    have pw : PW X x (tW X.K fun env Q => wT' s k a env fun k' e1 => brB k' (wT' s k b e1 Q) (Q false e1)) := by
      rcases vAnd_ok e with ⟨p, rfl⟩ | ⟨y, z, l', p, rfl, e2⟩
      · exact pw_andD (sT t a h1 c).1 (pw_and1 (sT t b h2 c).1)
      · have q := (sT t b h2 c).2
        simp only at e2
        rw [e2] at q
        exact pw_andD (sT t a h1 c).1 (q rfl)
    exact ⟨pw.pt, fun _ => pw⟩
  | .or a b, sc, x, X, h, c => by
    unfold mE at h
    obtain ⟨⟨l, r⟩, e, h⟩ := ob_t h
    obtain ⟨h1, h2⟩ := an h
    unfold wT' wT
    have pw : PW X x (tW X.K fun env Q => wT' s k a env fun k' e1 => brB k' (Q true e1) (wT' s k b e1 Q)) := by
      rcases vOr_ok e with ⟨p, rfl⟩ | ⟨y, z, l', p, rfl, e2⟩
      · exact pw_orD (sT t a h1 c).1 (pw_or1 (sT t b h2 c).1)
      · have q := (sT t b h2 c).2
        simp only at e2
        rw [e2] at q
        exact pw_orD (sT t a h1 c).1 (q rfl)
    exact ⟨pw.pt, fun _ => pw⟩
  | .not a, sc, x, X, h, c => by
    unfold mE at h
    obtain ⟨l, e, h⟩ := ob_t h
    obtain ⟨p, rfl⟩ := vNot_ok e
    unfold wT' wT
    exact ⟨pt_notD (sT t a h c).1, fun z => by cases z⟩
  | .cmp o a b, sc, x, X, h, c => by
    unfold mE at h
    obtain ⟨⟨l, op, r⟩, e, h⟩ := ob_t h
    obtain ⟨p, rfl⟩ := vCmp_ok e
    obtain ⟨h, h4⟩ := an h
    obtain ⟨h, h3⟩ := an h
    obtain ⟨h1, h2⟩ := an h
    have e1 : op = opC o := of_decide_eq_true h1
    subst e1
    unfold wT' wT
    exact ⟨pt_cmpD c.hu o (h_of h3 c (sE t a h3 c)) (h_of h4 c (sE t b h4 c)) (notSet_in h2 _), fun z => by cases z⟩
  | .chain o o' a b d, sc, x, X, h, c => by
    unfold mE at h
    obtain ⟨⟨l, op, op', r, z⟩, e, h⟩ := ob_t h
    obtain ⟨p, rfl⟩ := vChain_ok e
    obtain ⟨h, h6⟩ := an h
    obtain ⟨h, h5⟩ := an h
    obtain ⟨h, h4⟩ := an h
    obtain ⟨h, h3⟩ := an h
    obtain ⟨h1, h2⟩ := an h
    have e1 : op = opC o := of_decide_eq_true h1
    have e2 : op' = opC o' := of_decide_eq_true h2
    subst e1 e2
    unfold wT' wT
    exact ⟨pt_chainD c.hu o o' (h_of h4 c (sE t a h4 c)) (h_of h5 c (sE t b h5 c)) (h_of h6 c (sE t d h6 c)) (notSet_in h3 _), fun z => by cases z⟩
  | .chain3 o o' o2 a b d u, sc, x, X, h, c => by
    unfold mE at h
    obtain ⟨⟨l, op, op', op2, r, z, y⟩, e, h⟩ := ob_t h
    obtain ⟨p, rfl⟩ := vChain3_ok e
    obtain ⟨h, h8⟩ := an h
    obtain ⟨h, h7⟩ := an h
    obtain ⟨h, h6⟩ := an h
    obtain ⟨h, h5⟩ := an h
    obtain ⟨h, h4⟩ := an h
    obtain ⟨h, h3⟩ := an h
    obtain ⟨h1, h2⟩ := an h
    have e1 : op = opC o := of_decide_eq_true h1
    have e2 : op' = opC o' := of_decide_eq_true h2
    have e3 : op2 = opC o2 := of_decide_eq_true h3
    subst e1 e2 e3
    unfold wT' wT
    exact ⟨pt_chain3D c.hu o o' o2 (h_of h5 c (sE t a h5 c)) (h_of h6 c (sE t b h6 c)) (h_of h7 c (sE t d h7 c)) (h_of h8 c (sE t u h8 c)) (notSet_in h4 _), fun z => by cases z⟩
  | .isc n a d, sc, x, X, h, c => by
    unfold mE at h
    obtain ⟨⟨l, op, r⟩, e, h⟩ := ob_t h
    obtain ⟨p, rfl⟩ := vCmp_ok e
    obtain ⟨h, h4⟩ := an h
    obtain ⟨h, h3⟩ := an h
    obtain ⟨h1, h2⟩ := an h
    have e1 : op = opI n := of_decide_eq_true h1
    subst e1
    obtain ⟨z, e2, h4⟩ := ob_t h4
    obtain ⟨n', p', e3⟩ := vConst_ok e2
    unfold wT' wT
    exact ⟨(pe_isDx h2 ⟨z, n', p', e3, h4⟩ (h_of h3 c (sE t a h3 c))).2, fun z => by cases z⟩
  | .v i, sc, x, X, h, c => by
    have hh := h
    unfold mE at h
    obtain ⟨id, e, h⟩ := ob_t h
    obtain ⟨p, rfl⟩ := vName_ok e
    obtain ⟨h, h3⟩ := an h
    obtain ⟨h1, h2⟩ := an h
    unfold wT' wT
    refine ⟨pt_imp (pt_truth (pe_vH (by rw [c.xN]; exact of_decide_eq_true h1) (c.vis h2) (okN_d h3).1 (okN_d h3).2) fun _ => rfl) ?_, fun z => by cases z⟩
    rintro σ H Q ⟨B, Fr, G, env, P, g, hw, q⟩
    obtain ⟨d, e, hw⟩ := oP_some hw
    have hs : hasSl env i := by
      obtain ⟨s', e', hs⟩ := rd_var e
      unfold hasSl
      rw [e']
      cases s' <;> first | trivial | exact absurd rfl hs
    refine ⟨B, Fr, G, env, fun h e => h = .var i ∧ e = env, g, ⟨hs, rfl, rfl⟩, fun h e1 v H1 G1 p s1 g1 rr => ?_⟩
    obtain ⟨rfl, rfl⟩ := p
    obtain ⟨k', tv, p⟩ := tru_now g1.gs (g1.now rr e) hw
    exact ⟨k', tv, q _ _ _ _ p s1 g1⟩
  | .isi a ty, sc, x, X, h, c => by
    have q := sE t (.isi a ty) h c
    unfold wE' wE at q
    unfold mE at h
    obtain ⟨⟨id, l⟩, e, h⟩ := ob_t h
    obtain ⟨p, p', rfl⟩ := vCall_ok e
    unfold wT' wT
    exact ⟨pt_ofe q fun _ => rfl, fun z => by cases z⟩
  | .bi1 b a, sc, x, X, h, c => by
    have q := sE t (.bi1 b a) h c
    unfold wE' wE at q
    unfold mE at h
    obtain ⟨⟨id, l⟩, e, h⟩ := ob_t h
    obtain ⟨p, p', rfl⟩ := vCall_ok e
    unfold wT' wT
    exact ⟨pt_ofe q fun _ => rfl, fun z => by cases z⟩
  | .ix a i, sc, x, X, h, c => by
    have q := sE t (.ix a i) h c
    unfold wE' wE at q
    unfold mE at h
    obtain ⟨⟨l, r⟩, e, h⟩ := ob_t h
    obtain ⟨p, rfl, hp⟩ := vIx_ok e
    unfold wT' wT
    exact ⟨pt_ofe q fun _ => rfl, fun z => by cases z⟩
  | .call f es, sc, x, X, h, c => by
    have q := sE t (.call f es) h c
    unfold wE' wE at q
    unfold mE at h
    obtain ⟨⟨id, l⟩, e, h⟩ := ob_t h
    obtain ⟨p, p', rfl⟩ := vCall_ok e
    unfold wT' wT
    exact ⟨pt_ofe q fun _ => rfl, fun z => by cases z⟩
  | .bin o a b, sc, x, X, h, c => by
    have q := sE t (.bin o a b) h c
    unfold wE' wE at q
    unfold mE at h
    obtain ⟨⟨l, op, r⟩, e, h⟩ := ob_t h
    obtain ⟨p, rfl⟩ := vBin_ok e
    unfold wT' wT
    exact ⟨pt_ofe q fun _ => rfl, fun z => by cases z⟩
  | .ite q a b, sc, x, X, h, c => by
    unfold mE at h
    obtain ⟨⟨l, r, z⟩, e, h⟩ := ob_t h
    obtain ⟨p, rfl⟩ := vIf_ok e
    unfold wT' wT
    exact ⟨pt_none fun _ _ z => z, fun z => by cases z⟩
  | .c d, sc, x, X, h, c => by
    unfold mE at h
    obtain ⟨z, e, h⟩ := ob_t h
    obtain ⟨n, p, rfl⟩ := vConst_ok e
    unfold wT' wT
    exact ⟨pt_none fun _ _ z => z, fun z => by cases z⟩
  | .g n d, sc, x, X, h, c => by
    unfold mE at h
    obtain ⟨id, e, h⟩ := ob_t h
    obtain ⟨p, rfl⟩ := vName_ok e
    unfold wT' wT
    exact ⟨pt_none fun _ _ z => z, fun z => by cases z⟩
  | .neg a, sc, x, X, h, c => by
    unfold mE at h
    obtain ⟨l, e, h⟩ := ob_t h
    obtain ⟨p, rfl⟩ := vNeg_ok e
    unfold wT' wT
    exact ⟨pt_none fun _ _ z => z, fun z => by cases z⟩
  | .tup es, sc, x, X, h, c => by
    unfold mE at h
    obtain ⟨l, e, h⟩ := ob_t h
    obtain ⟨n, p, rfl⟩ := vTup_ok e
    unfold wT' wT
    exact ⟨pt_none fun _ _ z => z, fun z => by cases z⟩
  | .lst es, sc, x, X, h, c => by
    unfold mE at h
    obtain ⟨l, e, h⟩ := ob_t h
    obtain ⟨p, rfl⟩ := vLst_ok e
    unfold wT' wT
    exact ⟨pt_none fun _ _ z => z, fun z => by cases z⟩
  | .sl a lo hi, sc, x, X, h, c => by
    unfold mE at h
    obtain ⟨⟨l, r, z⟩, e, h⟩ := ob_t h
    obtain ⟨p, p', rfl⟩ := vSl_ok e
    unfold wT' wT
    exact ⟨pt_none fun _ _ z => z, fun z => by cases z⟩
  | .rev a, sc, x, X, h, c => by
    unfold mE at h
    obtain ⟨l, e, h⟩ := ob_t h
    obtain ⟨n, p1, p2, p3, p4, rfl⟩ := vRev_ok e
    unfold wT' wT
    exact ⟨pt_none fun _ _ z => z, fun z => by cases z⟩
  | .bi2 b a a', sc, x, X, h, c => by
    unfold mE at h
    obtain ⟨⟨id, l⟩, e, h⟩ := ob_t h
    obtain ⟨p, p', rfl⟩ := vCall_ok e
    unfold wT' wT
    exact ⟨pt_none fun _ _ z => z, fun z => by cases z⟩
  | .lc e g it q own, sc, x, X, h, c => by
    unfold mE at h
    obtain ⟨⟨elt, tg, iter, ifs, scope⟩, e0, h⟩ := ob_t h
    obtain ⟨p, rfl⟩ := vLc_ok e0
    unfold wT' wT
    exact ⟨pt_none fun _ _ z => z, fun z => by cases z⟩
theorem sEs (t : TabOk s T k) : ∀ (es : Es) {sc : Scope} {xs : List Expr} {X : Cx}, mEs s N sc es xs = true → Cxt T k N sc X → PA X xs (tDs X.K (wEs (wCall s.fns k) (refsOf s) es))
  | .nil, sc, [], X, h, c => by unfold wEs; exact pa_nilD
  | .nil, sc, _ :: _, X, h, c => by unfold mEs at h; cases h
  | .cons e es, sc, [], X, h, c => by unfold mEs at h; cases h
  | .cons e es, sc, x :: xs, X, h, c => by
    unfold mEs at h
    obtain ⟨h, h3⟩ := an h
    obtain ⟨h1, h2⟩ := an h
    unfold wEs
    exact pa_consD (notStar_ok h1) (d_of (sE t e h2 c)) (sEs t es h3 c)
theorem sAs (t : TabOk s T k) : ∀ (rs : List Bool) (es : Es) {sc : Scope} {xs : List Expr} {X : Cx}, mEs s N sc es xs = true → Cxt T k N sc X → PA X xs (tAr X.K (wAs (wCall s.fns k) (refsOf s) rs es))
  | rs, .nil, sc, [], X, h, c => by
    unfold wAs
    refine pa_imp pa_nilA ?_
    rintro σ H Q ⟨B, Fr, G, env, P, g, hw, q⟩
    exact ⟨B, Fr, G, env, P, g, hw.2, q⟩
  | rs, .nil, sc, _ :: _, X, h, c => by unfold mEs at h; cases h
  | rs, .cons e es, sc, [], X, h, c => by unfold mEs at h; cases h
  | [], .cons e es, sc, x :: xs, X, h, c => by
    unfold wAs
    exact ⟨fun pos pins s' σ H Q I ⟨B, Fr, G, env, P, g, hw, q⟩ => hw.elim⟩
  | false :: rs, .cons e es, sc, x :: xs, X, h, c => by
    unfold mEs at h
    obtain ⟨h, h3⟩ := an h
    obtain ⟨h1, h2⟩ := an h
    unfold wAs
    exact pa_consV (notStar_ok h1) (sE t e h2 c) (sAs t rs es h3 c)
  | true :: rs, .cons e es, sc, x :: xs, X, h, c => by
    unfold mEs at h
    obtain ⟨h, h3⟩ := an h
    obtain ⟨h1, h2⟩ := an h
    cases e with
    | v i =>
      unfold mE at h2
      obtain ⟨id, e, h2⟩ := ob_t h2
      obtain ⟨p, rfl⟩ := vName_ok e
      obtain ⟨h2, h6⟩ := an h2
      obtain ⟨h4, h5⟩ := an h2
      unfold wAs
      exact pa_consR (by rw [c.xN]; exact of_decide_eq_true h4) (c.vis h5) (okN_d h6).1 (okN_d h6).2 (sAs t rs es h3 c)
    | _ =>
      unfold wAs
      exact ⟨fun pos pins s' σ H Q I ⟨B, Fr, G, env, P, g, hw, q⟩ => hw.elim⟩
theorem sEo (t : TabOk s T k) : ∀ (o : Eo) {sc : Scope} {x : Option Expr} {X : Cx}, mEo s N sc o x = true → Cxt T k N sc X → PO X x (tOi X.K (wEo (wCall s.fns k) (refsOf s) o))
  | .non, sc, none, X, h, c => by unfold wEo; exact po_nonD
  | .non, sc, some _, X, h, c => by unfold mEo at h; cases h
  | .som e, sc, none, X, h, c => by unfold mEo at h; cases h
  | .som e, sc, some x, X, h, c => by
    unfold mEo at h
    unfold wEo
    exact po_somD (d_of (sE t e h c))
theorem sTo (t : TabOk s T k) : ∀ (o : Eo) {sc : Scope} {xs : List Expr} {X : Cx}, mTo s N sc o xs = true → Cxt T k N sc X → PTs X xs (tW X.K (wTo (wCall s.fns k) (refsOf s) o))
  | .non, sc, [], X, h, c => by unfold wTo; exact pts_nilD
  | .non, sc, _ :: _, X, h, c => by unfold mTo at h; cases h
  | .som e, sc, [], X, h, c => by unfold mTo at h; cases h
  | .som e, sc, [x], X, h, c => by
    unfold mTo at h
    unfold wTo
    exact pts_one (sT t e h c).1
  | .som e, sc, _ :: _ :: _, X, h, c => by unfold mTo at h; cases h
theorem sIt (t : TabOk s T k) : ∀ (it : It) {sc : Scope} {tg x : Expr} {X : Cx}, mIt s N sc it tg x = true → Cxt T k N sc X → PI X tg x (tIt X.K (wIt (wCall s.fns k) (refsOf s) it))
  | .e e, sc, tg, x, X, h, c => by
    unfold mIt at h
    unfold wIt
    exact pi_eD (h_of h c (sE t e h c))
  | .rng1 a, sc, tg, x, X, h, c => by
    unfold mIt at h
    obtain ⟨⟨id, l⟩, e, h⟩ := ob_t h
    obtain ⟨p, p', rfl⟩ := vCall_ok e
    obtain ⟨h, h4⟩ := an h
    obtain ⟨h, h3⟩ := an h
    obtain ⟨h1, h2⟩ := an h
    have e1 : id = ("range" : Str) := of_decide_eq_true h1
    simp only at h4 e1 h2 h3 ⊢
    split at h4
    · obtain ⟨h5, h6⟩ := an h4
      subst e1
      unfold wIt
      exact pi_rng1D (notStar_ok h5) (c.glb h2) (by rw [c.mg]; exact t.free _ h3) (d_of (sE t a h6 c))
    · cases h4
  | .rng2 a b, sc, tg, x, X, h, c => by
    unfold mIt at h
    obtain ⟨⟨id, l⟩, e, h⟩ := ob_t h
    obtain ⟨p, p', rfl⟩ := vCall_ok e
    obtain ⟨h, h4⟩ := an h
    obtain ⟨h, h3⟩ := an h
    obtain ⟨h1, h2⟩ := an h
    have e1 : id = ("range" : Str) := of_decide_eq_true h1
    simp only at h4 e1 h2 h3 ⊢
    split at h4
    · obtain ⟨h4, h8⟩ := an h4
      obtain ⟨h4, h7⟩ := an h4
      obtain ⟨h5, h6⟩ := an h4
      subst e1
      unfold wIt
      exact pi_rng2D (notStar_ok h5) (notStar_ok h6) (c.glb h2) (by rw [c.mg]; exact t.free _ h3) (d_of (sE t a h7 c)) (d_of (sE t b h8 c))
    · cases h4
  | .zip a b, sc, tg, x, X, h, c => by
    unfold mIt at h
    obtain ⟨h0, hh⟩ := an h
    obtain ⟨⟨id, l⟩, e, hz⟩ := ob_t hh
    clear hh h
    obtain ⟨tl, et⟩ := Option.isSome_iff_exists.mp h0
    obtain ⟨tn, tp, rfl⟩ := vTup_ok et
    obtain ⟨p, p', rfl⟩ := vCall_ok e
    obtain ⟨hz, h4⟩ := an hz
    obtain ⟨hz, h3⟩ := an hz
    obtain ⟨h1, h2⟩ := an hz
    have e1 : id = ("zip" : Str) := of_decide_eq_true h1
    simp only at h4 e1 h2 h3 ⊢
    split at h4
    · obtain ⟨h4, h8⟩ := an h4
      obtain ⟨h4, h7⟩ := an h4
      obtain ⟨h5, h6⟩ := an h4
      subst e1
      unfold wIt
      exact pi_zipD (notStar_ok h5) (notStar_ok h6) (c.glb h2) (by rw [c.mg]; exact t.free _ h3) (d_of (sE t a h7 c)) (d_of (sE t b h8 c))
    · cases h4
  | .enum a, sc, tg, x, X, h, c => by
    unfold mIt at h
    obtain ⟨h0, hh⟩ := an h
    obtain ⟨⟨id, l⟩, e, hz⟩ := ob_t hh
    clear hh h
    obtain ⟨tl, et⟩ := Option.isSome_iff_exists.mp h0
    obtain ⟨tn, tp, rfl⟩ := vTup_ok et
    obtain ⟨p, p', rfl⟩ := vCall_ok e
    obtain ⟨hz, h4⟩ := an hz
    obtain ⟨hz, h3⟩ := an hz
    obtain ⟨h1, h2⟩ := an hz
    have e1 : id = ("enumerate" : Str) := of_decide_eq_true h1
    simp only at h4 e1 h2 h3 ⊢
    split at h4
    · obtain ⟨h5, h6⟩ := an h4
      subst e1
      unfold wIt
      exact pi_enumD (notStar_ok h5) (c.glb h2) (by rw [c.mg]; exact t.free _ h3) (d_of (sE t a h6 c))
    · cases h4
end
end
end DL

set_option Elab.async false
set_option linter.all false
set_option maxRecDepth 100000
set_option maxHeartbeats 4000000
/-! DLl: statements. -/
namespace DL
open PySem PySem.Spec PyProof.Rows L2
def isStar : Expr → Bool
  | .Starred _ _ => true
  | _ => false
def lcl (kl : Str → Bool) (line : Nat) : Expr → Option Str
  | .Name id pos => if kl id && pos.line == line then some id else none
  | _ => none
/-- which names a, b = x, y stores from the right; none: the model does not say -/
def swS (kl : Str → Bool) (ts vs : List Expr) : Option (Option (List Str)) :=
  if (!(ts.length == 2 || ts.length == 3) || vs.length != ts.length) = true then some none
  else if vs.any isStar = true then some none
  else
    let names := ts.filterMap (lcl kl ((ts.head?.map (·.pos.line)).getD 0))
    if (names.length != ts.length || names.eraseDups.length != names.length) = true then some none
    else if vs.all (foldedForSure 8) = true then some none
    else if vs.all (constantsAlone 8) = true then none
    else some (some names)
theorem filterMap_ext {α β : Type} {f g : α → Option β} : ∀ {l : List α}, (∀ x ∈ l, f x = g x) → l.filterMap f = l.filterMap g
  | [], _ => rfl
  | x :: l, h => by
    rw [List.filterMap_cons, List.filterMap_cons, h x List.mem_cons_self, filterMap_ext fun y hy => h y (List.mem_cons_of_mem _ hy)]
theorem swS_ok {kl : Str → Bool} {ts vs : List Expr} {env : Env} {r : Option (List Str)} {k k2 : Nat} {p p2 : Pos} (hb : env.blockKind = .function)
    (hk : ∀ id q, Expr.Name id q ∈ ts → (env.kindOf id == some .local) = kl id) (h : swS kl ts vs = some r) : swappedStores [.Tuple ts k p] (.Tuple vs k2 p2) env = pure r := by
  have e1 : (vs.any fun | .Starred .. => true | _ => false) = vs.any isStar := by
    congr 1
  have e2 : (ts.filterMap fun | .Name id pos => (if (env.kindOf id == some .local && pos.line == (ts.head?.map (·.pos.line)).getD 0) = true then some id else none) | _ => none) = ts.filterMap (lcl kl ((ts.head?.map (·.pos.line)).getD 0)) := by
    refine filterMap_ext fun x hx => ?_
    cases x <;> first
      | rfl
      | (rename_i id q
         show (if (env.kindOf id == some NameKind.local && _) = true then _ else _) = (if (kl id && _) = true then _ else _)
         rw [hk id q hx])
  unfold swS at h
  show (do
    if (!(ts.length == 2 || ts.length == 3) || vs.length != ts.length || env.blockKind != .function) = true then return none
    if (vs.any fun | .Starred .. => true | _ => false) = true then return none
    let line := (ts.head?.map (·.pos.line)).getD 0
    let names := ts.filterMap fun | .Name id pos => (if (env.kindOf id == some .local && pos.line == line) = true then some id else none) | _ => none
    if (names.length != ts.length || names.eraseDups.length != names.length) = true then return none
    if vs.all (foldedForSure 8) = true then return none
    if vs.all (constantsAlone 8) = true then unsupported "assign.tuple-of-constant-expressions:order-of-the-stores"
    return some names : Sem (Option (List Str))) = pure r
  have e3 : (env.blockKind != .function) = false := by rw [hb]; rfl
  rw [e1, e3, Bool.or_false]
  dsimp only
  rw [e2]
  split at h
  · rename_i c; rw [if_pos c]; cases h; rfl
  · rename_i c
    rw [if_neg c]
    split at h
    · rename_i c2; rw [if_pos c2]; cases h; rfl
    · rename_i c2
      rw [if_neg c2]
      dsimp only at h
      split at h
      · rename_i c3; rw [if_pos c3]; cases h; rfl
      · rename_i c3
        rw [if_neg c3]
        split at h
        · rename_i c4; rw [if_pos c4]; cases h; rfl
        · rename_i c4
          rw [if_neg c4]
          split at h
          · cases h
          · rename_i c5; rw [if_neg c5]; cases h; rfl
/-! ### several values at once -/
def RsAll (K : Fg) (Fr G : Hp) (env : En) (σ : Sg) (H : Hp) : List V → List Sl → Prop
  | [], [] => True
  | v :: vs, r :: rs => Rr K Fr G env σ H v r ∧ RsAll K Fr G env σ H vs rs ∧ ∀ m ds a, r = .own m ds → v = .ref a → ∀ (j : Nat) (m' : Md) (ds' : List D), rs[j]? = some (.own m' ds') → vs[j]? ≠ some (.ref a)
  | _, _ => False
def setAllV : List Nat → List V → Sg → Sg
  | i :: is, v :: vs, σ => setAllV is vs (σ.set i (some v))
  | _, _, σ => σ
section
variable {K : Fg} {B : Nat → Option Addr} {Fr G G' : Hp} {env env' : En} {σ : Sg} {H H' : Hp}
theorem Rr.store {v w : V} {r q : Sl} {i : Nat} (h : Rr K Fr G env σ H w q) (hl : env.length = σ.length) (hd : ∀ m ds m' ds' a, r = .own m ds → q = .own m' ds' → v = .ref a → w ≠ .ref a) : Rr K Fr G (env.set i r) (σ.set i (some v)) H w q := by
  cases q with
  | no => exact h
  | val d => exact h
  | scr ns => exact h
  | own m ds =>
    obtain ⟨rfl, a, xs, rfl, h1, h2, h3, h4, h5⟩ := h
    refine ⟨rfl, a, xs, rfl, h1, h2, h3, h4, fun j n es e z => ?_⟩
    rcases set_at e with ⟨j1, e1, hj⟩ | ⟨ne, e⟩
    · subst j1
      rw [List.getElem?_set_self (by rw [← hl]; exact hj)] at z
      cases z
      exact hd _ _ _ _ a e1.symm rfl rfl rfl
    · rw [List.getElem?_set_ne (Ne.symm ne)] at z
      exact h5 j n es e z
theorem RsAll.at : ∀ {vs : List V} {rs : List Sl}, RsAll K Fr G env σ H vs rs → ∀ (j : Nat) (r : Sl), rs[j]? = some r → ∃ v, vs[j]? = some v ∧ Rr K Fr G env σ H v r
  | [], [], _, j, r, e => by simp at e
  | [], _ :: _, h, _, _, _ => h.elim
  | _ :: _, [], h, _, _, _ => h.elim
  | v :: vs, r0 :: rs, h, 0, r, e => by simp at e; subst e; exact ⟨v, rfl, h.1⟩
  | v :: vs, r0 :: rs, h, j + 1, r, e => by
    obtain ⟨w, h1, h2⟩ := RsAll.at h.2.1 j r (by simpa using e)
    exact ⟨w, by simpa using h1, h2⟩
theorem RsAll.map : ∀ {vs : List V} {rs : List Sl} {Fr' G' : Hp} {env' : En} {σ' : Sg} {H' : Hp}, (∀ (j : Nat) v r, vs[j]? = some v → rs[j]? = some r → Rr K Fr G env σ H v r → Rr K Fr' G' env' σ' H' v r) → RsAll K Fr G env σ H vs rs → RsAll K Fr' G' env' σ' H' vs rs
  | [], [], _, _, _, _, _, _, _ => trivial
  | [], _ :: _, _, _, _, _, _, _, h => h.elim
  | _ :: _, [], _, _, _, _, _, _, h => h.elim
  | v :: vs, r :: rs, _, _, _, _, _, f, h => ⟨f 0 v r rfl rfl h.1, RsAll.map (fun j v r e1 e2 => f (j + 1) v r (by simpa using e1) (by simpa using e2)) h.2.1, h.2.2⟩
theorem RsAll.length : ∀ {vs : List V} {rs : List Sl}, RsAll K Fr G env σ H vs rs → vs.length = rs.length
  | [], [], _ => rfl
  | [], _ :: _, h => h.elim
  | _ :: _, [], h => h.elim
  | v :: vs, r :: rs, h => by simp [RsAll.length h.2.1]
theorem Gh.storeAll : ∀ {is : List Nat} {vs : List V} {rs : List Sl} {env : En} {σ : Sg}, Gh K B Fr G env σ H → RsAll K Fr G env σ H vs rs → Gh K B Fr G (setAll is rs env) (setAllV is vs σ) H
  | [], vs, rs, env, σ, g, h => by cases rs <;> cases vs <;> exact g
  | i :: is, [], [], env, σ, g, h => g
  | _ :: _, [], _ :: _, _, _, _, h => h.elim
  | _ :: _, _ :: _, [], _, _, _, h => h.elim
  | i :: is, v :: vs, r :: rs, env, σ, g, h => by
    refine Gh.storeAll (is := is) (g.store (i := i) h.1) (RsAll.map (fun j w q e1 e2 hq => hq.store g.len fun m ds m' ds' a z1 z2 z3 z4 => ?_) h.2.1)
    subst z2 z4
    exact h.2.2 m ds a z1 z3 j m' ds' e2 e1
theorem Rr.mono {v : V} {r : Sl} (h : Rr K Fr G env σ H v r) (s : Same G G') : (∀ m ds, r ≠ .own m ds) → Rr K Fr G' env' σ H' v r := fun hn => by
  cases r with
  | no => exact h
  | val d => exact Rp.mono s h
  | scr ns => obtain ⟨a, e, h⟩ := h; exact ⟨a, e, sqL_mono s h⟩
  | own m ds => exact absurd rfl (hn m ds)
def tRs (K : Fg) (w : En → (List Sl → En → Prop) → Prop) : TA := fun σ H Q => ∃ B Fr G env P, Gh K B Fr G env σ H ∧ w env P ∧
  ∀ rs env' vs H' G', P rs env' → Same G G' → Gh K B Fr G' env' σ H' → RsAll K Fr G' env' σ H' vs rs → Q vs H'
theorem pa_nilR {X : Cx} : PA X [] (tRs X.K fun env Q => Q [] env) := by
  refine pa_imp pa_nil ?_
  rintro σ H Q ⟨B, Fr, G, env, P, g, hw, q⟩
  exact q _ _ _ _ _ hw (Same.refl G) g trivial
theorem pa_consS {X : Cx} {a : Expr} {es : List Expr} {w : WE} {ws : En → (List Sl → En → Prop) → Prop} (hn : ∀ x p, a ≠ .Starred x p) (ha : PE X a (tE X.K w)) (hb : PA X es (tRs X.K ws)) :
    PA X (a :: es) (tRs X.K fun env Q => w env fun r e1 => ws e1 fun rs e2 => Q (r :: rs) e2) := by
  refine pa_imp (pa_cons ha hb (notStar_each hn es X.env)) ?_
  rintro σ H Q ⟨B, Fr, G, env, P, g, hw, q⟩
  refine ⟨B, Fr, G, env, _, g, hw, fun r e1 v H1 G1 p s g1 rr => ?_⟩
  by_cases ho : ∃ m ds, r = .own m ds
  · obtain ⟨m, ds, rfl⟩ := ho
    obtain ⟨rfl, a, xs, rfl, h1, h2, h3, h4, h5⟩ := rr
    have gr := g1.reserve h1 h3 h5
    refine ⟨B, _, G1, e1, _, gr, p, fun rs e2 vs H2 G2 p2 s2 g2 rrs => ?_⟩
    obtain ⟨g3, k1, k2, k3⟩ := g2.unreserve h4
    refine q _ _ _ _ _ p2 (s.trans s2) g3 ⟨⟨rfl, a, xs, rfl, k1, h2.mono s2, k2, h4, k3⟩, ?_, fun m' ds' b z1 z2 j m2 ds2 e3 e4 => ?_⟩
    · refine RsAll.map (fun j w q _ _ hq => ?_) rrs
      cases q with
      | no => exact hq
      | val d => exact hq
      | scr ns => exact hq
      | own m ds =>
        obtain ⟨rfl, b, ys, rfl, z1, z2, z3, z4, z5⟩ := hq
        refine ⟨rfl, b, ys, rfl, z1, z2, z3, ?_, z5⟩
        by_cases hb : b = a
        · subst hb; exact h4
        · rw [upd_ne hb] at z4; exact z4
    · cases z2
      obtain ⟨w, w1, w2⟩ := rrs.at j _ e3
      rw [w1] at e4; cases e4
      obtain ⟨_, b, ys, e5, _, _, _, z4, _⟩ := w2
      cases e5
      rw [upd_same] at z4
      cases z4
  · refine ⟨B, Fr, G1, e1, _, g1, p, fun rs e2 vs H2 G2 p2 s2 g2 rrs => q _ _ _ _ _ p2 (s.trans s2) g2 ⟨rr.mono s2 fun m ds z => ho ⟨m, ds, z⟩, rrs, fun m ds a z => absurd ⟨m, ds, z⟩ ho⟩⟩
end
section
variable {X : Cx}
def gAll (is : List Nat) : TGs := fun vs σ H Q => is.length = vs.length ∧ Q (setAllV is vs σ) H
theorem pgs_all : ∀ {is : List Nat} {ts : List Expr} (hN : X.N.Nodup), ts.length = is.length → (∀ (j : Nat) t i, ts[j]? = some t → is[j]? = some i → ∃ x p, t = .Name x p ∧ X.N[i]? = some x ∧ Loc X.env.scope x ∧ (X.fn x = true ∨ X.env.scope.names.lookup x = some .local)) → PGs X ts (gAll is)
  | [], [], _, _, _ => ⟨fun pins s σ H vs us Q I r h => pgs_nil.run pins s σ H vs us Q I r (by
      obtain ⟨h1, h2⟩ := h
      cases vs with
      | nil => exact ⟨rfl, h2⟩
      | cons _ _ => simp at h1)⟩
  | [], _ :: _, _, h, _ => by simp at h
  | _ :: _, [], _, h, _ => by simp at h
  | i :: is, t :: ts, hN, hl, h => by
    obtain ⟨x, p, rfl, h1, h2, h3⟩ := h 0 t i rfl rfl
    have ih := pgs_all (is := is) (ts := ts) hN (by simpa using hl) fun j t i e1 e2 => h (j + 1) t i (by simpa using e1) (by simpa using e2)
    refine ⟨fun pins s σ H vs us Q I r q => (pgs_cons (pg_name hN h1 h2 h3) ih rfl).run pins s σ H vs us Q I r ?_⟩
    obtain ⟨q1, q2⟩ := q
    cases vs with
    | nil => simp at q1
    | cons v vs => exact ⟨v, vs, rfl, by simpa using q1, q2⟩
end
end DL

set_option Elab.async false
set_option linter.all false
set_option maxRecDepth 100000
set_option maxHeartbeats 4000000
/-! DLm: every statement that matches a term means what the term means. -/
namespace DL
open PySem PySem.Spec PyProof.Rows L2
def vAsg : Stmt → Option (Expr × Expr)
  | .Assign [tg] v _ => some (tg, v)
  | _ => none
def vExpr : Stmt → Option Expr
  | .Expr v _ => some v
  | _ => none
def vRet : Stmt → Option (Option Expr)
  | .Return v _ => some v
  | _ => none
def vIfS : Stmt → Option (Expr × List Stmt × List Stmt)
  | .If c a b _ => some (c, a, b)
  | _ => none
def vWhl : Stmt → Option (Expr × List Stmt)
  | .While c b [] _ => some (c, b)
  | _ => none
def vFor : Stmt → Option (Expr × Expr × List Stmt)
  | .For tg it b [] _ => some (tg, it, b)
  | _ => none
def isPass : Stmt → Bool
  | .Pass _ => true
  | _ => false
def isBrk : Stmt → Bool
  | .Break _ => true
  | _ => false
def isCnt : Stmt → Bool
  | .Continue _ => true
  | _ => false
def vApp : Expr → Option (Expr × Expr)
  | .Call (.Attribute o n ap) [e] [] cp => if n = ("append" : Str) ∧ (ap.endLine == cp.line) = true then some (o, e) else none
  | _ => none
theorem vAsg_ok {x : Stmt} {r} (h : vAsg x = some r) : ∃ p, x = .Assign [r.1] r.2 p := by unfold vAsg at h; split at h <;> simp at h; subst h; exact ⟨_, rfl⟩
theorem vExpr_ok {x : Stmt} {r} (h : vExpr x = some r) : ∃ p, x = .Expr r p := by unfold vExpr at h; split at h <;> simp at h; subst h; exact ⟨_, rfl⟩
theorem vRet_ok {x : Stmt} {r} (h : vRet x = some r) : ∃ p, x = .Return r p := by unfold vRet at h; split at h <;> simp at h; subst h; exact ⟨_, rfl⟩
theorem vIfS_ok {x : Stmt} {r} (h : vIfS x = some r) : ∃ p, x = .If r.1 r.2.1 r.2.2 p := by unfold vIfS at h; split at h <;> simp at h; subst h; exact ⟨_, rfl⟩
theorem vWhl_ok {x : Stmt} {r} (h : vWhl x = some r) : ∃ p, x = .While r.1 r.2 [] p := by unfold vWhl at h; split at h <;> simp at h; subst h; exact ⟨_, rfl⟩
theorem vFor_ok {x : Stmt} {r} (h : vFor x = some r) : ∃ p, x = .For r.1 r.2.1 r.2.2 [] p := by unfold vFor at h; split at h <;> simp at h; subst h; exact ⟨_, rfl⟩
theorem vApp_ok {x : Expr} {r} (h : vApp x = some r) : ∃ ap cp, x = .Call (.Attribute r.1 "append" ap) [r.2] [] cp ∧ (ap.endLine == cp.line) = true := by
  unfold vApp at h
  split at h
  · split at h
    · rename_i c; simp at h; subst h; obtain ⟨rfl, c2⟩ := c; exact ⟨_, _, rfl, c2⟩
    · cases h
  · cases h
theorem isPass_ok {x : Stmt} (h : isPass x = true) : ∃ p, x = .Pass p := by unfold isPass at h; split at h; exact ⟨_, rfl⟩; cases h
theorem isBrk_ok {x : Stmt} (h : isBrk x = true) : ∃ p, x = .Break p := by unfold isBrk at h; split at h; exact ⟨_, rfl⟩; cases h
theorem isCnt_ok {x : Stmt} (h : isCnt x = true) : ∃ p, x = .Continue p := by unfold isCnt at h; split at h; exact ⟨_, rfl⟩; cases h
def isL (sc : Scope) (x : Str) : Bool := match sc.names.lookup x with
  | some .local => true
  | _ => false
def okTg (sc : Scope) (tg v : Expr) : Bool := match tg, v with
  | .Tuple ts _ _, .Tuple vs _ _ => decide (swS (isL sc) ts vs = some none)
  | _, _ => true
def mNs (N : List Str) (sc : Scope) : List Nat → List Expr → Bool
  | [], [] => true
  | i :: is, t :: ts => ob (vName t) (fun id => decide (N[i]? = some id) && loc sc id) && mNs N sc is ts
  | _, _ => false
section
variable (s : Stat) (N : List Str)
mutual
def mS : Scope → S → Stmt → Bool
  | sc, .asg g e, x => ob (vAsg x) fun r => mTg N sc g r.1 && mE s N sc e r.2 && okTg sc r.1 r.2
  | sc, .par is es, x => ob (vAsg x) fun r => ob (vTup r.1) fun ts => ob (vTup r.2) fun vs => (swS (isL sc) ts vs).isSome && decide (is.length ≤ 1000) && decide is.Nodup && mNs N sc is ts && mEs s N sc es vs
  | sc, .set i k e, x => ob (vAsg x) fun r => ob (vIx r.1) fun q => mE s N sc (.v i) q.1 && mE s N sc k q.2 && mE s N sc e r.2
  | sc, .app i e, x => ob (vExpr x) fun x => ob (vApp x) fun q => mE s N sc (.v i) q.1 && notStar q.2 && mE s N sc e q.2
  | sc, .ex e, x => ob (vExpr x) fun x => (vCall x).isSome && mE s N sc e x
  | sc, .ret e, x => ob (vRet x) fun o => ob o fun x => mE s N sc e x
  | sc, .ret0, x => ob (vRet x) fun o => o.isNone
  | sc, .ite t a b, x => ob (vIfS x) fun r => mE s N sc t r.1 && mSs sc a r.2.1 && mSs sc b r.2.2
  | sc, .whl t b, x => ob (vWhl x) fun r => mE s N sc t r.1 && mSs sc b r.2
  | sc, .for g it b, x => ob (vFor x) fun r => mTg N sc g r.1 && notSet r.2.1 && mIt s N sc it r.1 r.2.1 && mSs sc b r.2.2
  | _, .pass, x => isPass x
  | _, .brk, x => isBrk x
  | _, .cnt, x => isCnt x
  | _, .stop, _ => true
def mSs : Scope → Ss → List Stmt → Bool
  | _, .nil, [] => true
  | sc, .cons a r, x :: xs => mS sc a x && mSs sc r xs
  | _, _, _ => false
end
end
section
variable {X : Cx} {pos : Pos}
theorem blkKind {env : Env} (h : env.scope.kind = .function) : env.blockKind = .function := by unfold Env.blockKind; rw [h]; rfl
theorem ps_asgN {x : Str} {py : Pos} {e : Expr} {i : Nat} {w : WE} (hN : X.N.Nodup) (hi : X.N[i]? = some x) (hx : Loc X.env.scope x) (hf : X.fn x = true ∨ X.env.scope.names.lookup x = some .local) (he : PE X e (tE X.K w)) (hs : swapsWith e (some (.Name x py)) pos.line X.env = pure false) :
    PS X (.Assign [.Name x py] e pos) (tSt X.K (mAsg (.n i) w)) := by
  refine ps_imp (ps_set hN hi hx he hs hf) ?_
  rintro Dn σ H ⟨B, Fr, G, env, P, g, hw, nx, bk, ct, rt⟩
  exact ⟨B, Fr, G, env, _, g, hw, fun r e1 v H1 G1 p s g1 rr => nx _ _ _ _ p.2 s (g1.store rr)⟩
theorem asg_t {K : Fg} {ts : List Tg} {w : WE} : ∀ (Dn : Ends) σ H, tSt K (mAsg (.t ts) w) Dn σ H → tE K w σ H fun v H1 => tTg K (tgSs ts) (bindT (.t ts)) v σ H1 Dn.nx := by
  rintro Dn σ H ⟨B, Fr, G, env, P, g, hw, nx, bk, ct, rt⟩
  refine ⟨B, Fr, G, env, _, g, hw, fun r e1 v H1 G1 p s g1 rr => ?_⟩
  obtain ⟨d, e, p⟩ := oP_some p
  obtain ⟨G2, s2, g2, r2⟩ := g1.freeze rr e
  exact ⟨B, Fr, G2, e1, _, d, g2, r2, p, fun e2 σ' H' G' p s' g' _ => nx _ _ _ _ p ((s.trans s2).trans s') g'⟩
theorem par_of {K : Fg} {is : List Nat} {ws : En → (List Sl → En → Prop) → Prop} : ∀ (Dn : Ends) σ H, tSt K (mPar is ws) Dn σ H → tRs K ws σ H fun vs H1 => vs.length = is.length ∧ ∀ H2, (∀ b o, H1 b = some o → H2 b = some o) → (∀ p o, H1 p = none → H2 = upd H1 p o → True) → (H2 = H1 ∨ ∃ p o, H1 p = none ∧ H2 = upd H1 p o) → Dn.nx (setAllV is vs σ) H2 := by
  rintro Dn σ H ⟨B, Fr, G, env, P, g, hw, nx, bk, ct, rt⟩
  refine ⟨B, Fr, G, env, _, g, hw, fun rs e1 vs H1 G1 p s g1 rr => ?_⟩
  obtain ⟨p1, p2, p3, p4⟩ := p
  refine ⟨by rw [rr.length, p1], fun H2 _ _ h => ?_⟩
  rcases h with rfl | ⟨a, o, ha, rfl⟩
  · exact nx _ _ _ _ p4 s (g1.storeAll rr)
  · refine nx _ _ _ _ p4 s ((g1.alloc ha).storeAll (RsAll.map (fun j v r _ _ hr => ?_) rr))
    cases r with
    | no => exact hr
    | val d => exact hr
    | scr ns => exact hr
    | own m ds =>
      obtain ⟨rfl, b, xs, rfl, h1, h2⟩ := hr
      exact ⟨rfl, b, xs, rfl, same_upd ha _ _ h1, h2⟩
theorem ps_parG {ts vs : List Expr} {is : List Nat} {ws : En → (List Sl → En → Prop) → Prop} {k k2 : Nat} {p p2 : Pos} (hc : X.calm = true) (hN : X.N.Nodup) (hl : ts.length = is.length) (hall : ∀ (j : Nat) t i, ts[j]? = some t → is[j]? = some i → ∃ x p, t = .Name x p ∧ X.N[i]? = some x ∧ Loc X.env.scope x ∧ (X.fn x = true ∨ X.env.scope.names.lookup x = some .local))
    (hst : (assignEach ts X.env).findIdx? (·.1) = none) (ha : PA X vs (tRs X.K ws)) (hsz : ts.length ≤ sizeLine) (hw : swappedStores [.Tuple ts k p] (.Tuple vs k2 p2) X.env = pure none) :
    PS X (.Assign [.Tuple ts k p] (.Tuple vs k2 p2) pos) (tSt X.K (mPar is ws)) := by
  refine ps_imp (ps_asg (pe_tup ha) (pg_tup (n := ts.length) hc (pgs_all hN hl hall) (each_len ts X.env) hst) rfl hw rfl) ?_
  intro Dn σ H h
  have h' := par_of Dn σ H h
  obtain ⟨B, Fr, G, env, P, g, hw, q⟩ := h'
  refine ⟨B, Fr, G, env, _, g, hw, fun rs e1 vs' H1 G1 p s g1 rr => ?_⟩
  obtain ⟨q1, q2⟩ := q rs e1 vs' H1 G1 p s g1 rr
  refine ⟨by rw [q1, ← hl]; exact hsz, fun T hT => ⟨T, vs', rfl, .inl (.inl upd_same), by rw [q1, hl], by omega, ?_⟩⟩
  exact q2 _ (same_upd hT) (fun _ _ _ _ => trivial) (.inr ⟨T, _, hT, rfl⟩)
theorem ps_par2 {x y : Str} {a b : Expr} {i j : Nat} {ws : En → (List Sl → En → Prop) → Prop} {px py pt p2 : Pos} {kt k2 : Nat} (hc : X.calm = true) (hN : X.N.Nodup) (hi : X.N[i]? = some x) (hj : X.N[j]? = some y) (hij : i ≠ j) (hx : X.env.scope.names.lookup x = some .local) (hy : X.env.scope.names.lookup y = some .local)
    (ha : PA X [a, b] (tRs X.K ws)) (hw : swappedStores [.Tuple [.Name x px, .Name y py] kt pt] (.Tuple [a, b] k2 p2) X.env = pure (some [x, y])) :
    PS X (.Assign [.Tuple [.Name x px, .Name y py] kt pt] (.Tuple [a, b] k2 p2) pos) (tSt X.K (mPar [i, j] ws)) := by
  refine ps_imp (ps_par hc hN hi hj hij hx hy ha hw rfl) ?_
  intro Dn σ H h
  obtain ⟨B, Fr, G, env, P, g, hw, q⟩ := par_of Dn σ H h
  refine ⟨B, Fr, G, env, _, g, hw, fun rs e1 vs' H1 G1 p s g1 rr => ?_⟩
  obtain ⟨q1, q2⟩ := q rs e1 vs' H1 G1 p s g1 rr
  match vs', q1 with
  | [v, w], _ => exact ⟨v, w, rfl, q2 H1 (fun _ _ z => z) (fun _ _ _ _ => trivial) (.inl rfl)⟩
theorem ps_par3D {x y z : Str} {a b c : Expr} {i j l : Nat} {ws : En → (List Sl → En → Prop) → Prop} {px py pz pt p2 : Pos} {kt k2 : Nat} (hc : X.calm = true) (hN : X.N.Nodup) (hi : X.N[i]? = some x) (hj : X.N[j]? = some y) (hl : X.N[l]? = some z) (hij : i ≠ j) (hil : i ≠ l) (hjl : j ≠ l) (hx : X.env.scope.names.lookup x = some .local) (hy : X.env.scope.names.lookup y = some .local) (hz : X.env.scope.names.lookup z = some .local)
    (ha : PA X [a, b, c] (tRs X.K ws)) (hw : swappedStores [.Tuple [.Name x px, .Name y py, .Name z pz] kt pt] (.Tuple [a, b, c] k2 p2) X.env = pure (some [x, y, z])) :
    PS X (.Assign [.Tuple [.Name x px, .Name y py, .Name z pz] kt pt] (.Tuple [a, b, c] k2 p2) pos) (tSt X.K (mPar [i, j, l] ws)) := by
  refine ps_imp (ps_par3 hc hN hi hj hl hij hil hjl hx hy hz ha hw rfl) ?_
  intro Dn σ H h
  obtain ⟨B, Fr, G, env, P, g, hw, q⟩ := par_of Dn σ H h
  refine ⟨B, Fr, G, env, _, g, hw, fun rs e1 vs' H1 G1 p s g1 rr => ?_⟩
  obtain ⟨q1, q2⟩ := q rs e1 vs' H1 G1 p s g1 rr
  match vs', q1 with
  | [u, v, w], _ => exact ⟨u, v, w, rfl, q2 H1 (fun _ _ z => z) (fun _ _ _ _ => trivial) (.inl rfl)⟩
theorem own_slot {K : Fg} {B : Nat → Option Addr} {Fr G : Hp} {env : En} {σ : Sg} {H : Hp} {i : Nat} {A : Prop} {m : En → Prop} (g : Gh K B Fr G env σ H) (h : match env[i]? with
    | some (.own _ _) => A
    | _ => False) : A ∧ ∃ a xs, σ[i]? = some (some (.ref a)) ∧ H a = some (.lst xs) := by
  split at h
  · rename_i m ds e
    obtain ⟨a, xs, k1, k2, _⟩ := g.own i m ds e
    exact ⟨h, a, xs, k1, k2⟩
  · exact h.elim
theorem ps_setD {a b e : Expr} {i : Nat} {x : Str} {px tp : Pos} {wk we : WD} (hN : X.N[i]? = some x) (hv : Vis X.env.scope x) (h1 : (x == ("__debug__" : Str)) = false) (h2 : (x == ("__classdict__" : Str)) = false) (hb : ∀ l u s p, b ≠ .Slice l u s p) (hk : PE X b (tD X.K wk)) (he : PE X e (tD X.K we)) :
    PS X (.Assign [.Subscript (.Name x px) b tp] e pos) (tSt X.K (mSet i wk we)) := by
  have hs : swapsWithSole [.Subscript (.Name x px) b tp] e pos.line X.env = pure false := by cases e <;> rfl
  have hw : swappedStores [.Subscript (.Name x px) b tp] e X.env = pure none := by cases e <;> rfl
  refine ps_imp (ps_asg he (pg_sub (pe_var hN hv h1 h2) hk set_list (fun v => by cases b <;> first | rfl | exact absurd rfl (hb _ _ _ _))) hs hw rfl) ?_
  rintro Dn σ H ⟨B, Fr, G, env, P, g, hw, nx, bk, ct, rt⟩
  obtain ⟨hw, a0, xs0, hv0, _⟩ := own_slot (m := fun _ => True) g hw
  refine ⟨B, Fr, G, env, _, g, hw, fun d e1 v H1 G1 p s g1 r => ⟨_, hv0, B, Fr, G1, e1, _, g1, p, fun dk e2 vk H2 G2 p2 s2 g2 rk => ?_⟩⟩
  obtain ⟨j, ej, p2⟩ := oP_some p2
  cases dk <;> cases ej
  cases rk
  split at p2
  · rename_i m ds eo
    obtain ⟨hm, p3⟩ := p2
    obtain ⟨n, en, p3⟩ := oP_some p3
    obtain ⟨a, xs, k1, k2, k3, k4, k5, k6⟩ := g2.own i m ds eo
    rw [hv0] at k1; cases k1
    refine ⟨_, xs, j, n, rfl, rfl, k2, by rw [k3.length]; exact en, ?_⟩
    exact nx _ _ _ _ p3 (s.trans s2) (g2.put eo hv0 (k3.set (r.mono s2) n))
  · exact p2.elim
theorem ps_appD {e : Expr} {i : Nat} {x : Str} {px ap cp : Pos} {we : WD} (hN : X.N[i]? = some x) (hv : Vis X.env.scope x) (h1 : (x == ("__debug__" : Str)) = false) (h2 : (x == ("__classdict__" : Str)) = false) (hn : ∀ y p, e ≠ .Starred y p) (he : PE X e (tD X.K we)) (hl : (ap.endLine == cp.line) = true) :
    PS X (.Expr (.Call (.Attribute (.Name x px) "append" ap) [e] [] cp) pos) (tSt X.K (mApp i we)) := by
  have hs := notStar_each hn [] X.env
  refine ps_imp (ps_expr (pe_bm PySem.F.plainAttrs_list PySem.F.slot_list_append PySem.F.type_list_append mt_append (pe_var hN hv h1 h2) (pa_cons he pa_nil hs) rfl ?_ hl hs rfl) rfl) ?_
  · rw [hs]; rfl
  rintro Dn σ H ⟨B, Fr, G, env, P, g, hw, nx, bk, ct, rt⟩
  obtain ⟨hw, a0, xs0, hv0, ha0⟩ := own_slot (m := fun _ => True) g hw
  refine ⟨_, hv0, .inl ⟨rfl, _, SqL.of ha0⟩, B, Fr, G, env, _, g, hw, fun d e1 v H1 G1 p s g1 r => ?_⟩
  split at p
  · rename_i m ds eo
    obtain ⟨hm, hlen, p3⟩ := p
    obtain ⟨a, xs, k1, k2, k3, k4, k5, k6⟩ := g1.own i m ds eo
    rw [hv0] at k1; cases k1
    exact ⟨_, xs, v, rfl, rfl, k2, by rw [k3.length]; exact hlen, nx _ _ _ _ p3 s (g1.put eo hv0 (k3.append (.one r)))⟩
  · exact p.elim
theorem ps_exD {e : Expr} {w : WE} (he : PE X e (tE X.K w)) (hs : swapsWith e none pos.line X.env = pure false) : PS X (.Expr e pos) (tSt X.K fun env K => w env fun _ e1 => K.nx e1) := by
  refine ps_imp (ps_expr he hs) ?_
  rintro Dn σ H ⟨B, Fr, G, env, P, g, hw, nx, bk, ct, rt⟩
  exact ⟨B, Fr, G, env, _, g, hw, fun r e1 v H1 G1 p s g1 rr => nx _ _ _ _ p s g1⟩
theorem ps_retD {e : Expr} {w : WE} (he : PE X e (tE X.K w)) : PS X (.Return (some e) pos) (tSt X.K fun env K => w env K.rt) := by
  refine ps_imp (ps_ret he) ?_
  rintro Dn σ H ⟨B, Fr, G, env, P, g, hw, nx, bk, ct, rt⟩
  exact ⟨B, Fr, G, env, _, g, hw, fun r e1 v H1 G1 p s g1 rr => rt _ _ _ _ _ _ p s g1 rr⟩
theorem ps_retV {i : Nat} {x : Str} {px : Pos} (hN : X.N[i]? = some x) (hv : Vis X.env.scope x) (h1 : (x == ("__debug__" : Str)) = false) (h2 : (x == ("__classdict__" : Str)) = false) {w : WE} (hw0 : w = mV i) : PS X (.Return (some (.Name x px)) pos) (tSt X.K (mRet (.v i) w)) := by
  subst hw0
  have q1 := ps_retD (pos := pos) (pe_vE (pos := px) hN hv h1 h2)
  have q2 := ps_ret (pos := pos) (pe_var (pos := px) hN hv h1 h2)
  refine ⟨fun pins s σ H Dn I h => ?_⟩
  obtain ⟨B, Fr, G, env, P, g, hw, nx, bk, ct, rt⟩ := h
  unfold mRet at hw
  simp only at hw
  split at hw
  · rename_i ds e
    obtain ⟨a, xs, k1, k2, k3, k4, k5, _⟩ := g.own i _ ds e
    refine q2.run pins s σ H Dn I ⟨_, k1, ?_⟩
    have g1 : Gh X.K B Fr G (env.set i .no) σ H := g.fewer List.length_set fun j s z => by
      rcases set_at z with ⟨_, z, _⟩ | ⟨_, z⟩
      · exact .inl z
      · exact .inr z
    exact rt _ _ _ _ _ _ hw (Same.refl G) g1 ⟨rfl, a, xs, rfl, k2, k3, k4, k5, fun j m es z s2 => by
      rcases set_at z with ⟨_, z, _⟩ | ⟨ne, z⟩
      · cases z
      · exact ne (g.ap j i m _ es ds a z e s2 k1)⟩
  · exact q1.run pins s σ H Dn I ⟨B, Fr, G, env, P, g, hw, nx, bk, ct, rt⟩
theorem ps_ifD {c : Expr} {a b : List Stmt} {t : WB} {wa wb : En → AK → Prop} (hc : PT X c (tW X.K t)) (ha : PSs X a (tSt X.K wa)) (hb : PSs X b (tSt X.K wb)) : PS X (.If c a b pos) (tSt X.K fun env K => t env fun k e1 => brB k (wa e1 K) (wb e1 K)) := by
  refine ps_imp (ps_if hc ha hb) ?_
  rintro Dn σ H ⟨B, Fr, G, env, P, g, hw, nx, bk, ct, rt⟩
  refine ⟨B, Fr, G, env, _, g, hw, fun k e1 H1 G1 p s g1 => ?_⟩
  have go : ∀ w : En → AK → Prop, w e1 P → tSt X.K w Dn σ H1 := fun w q => ⟨B, Fr, G1, e1, P, g1, q, fun e2 σ' H' G' p s' g' => nx _ _ _ _ p (s.trans s') g', fun e2 σ' H' G' p s' g' => bk _ _ _ _ p (s.trans s') g', fun e2 σ' H' G' p s' g' => ct _ _ _ _ p (s.trans s') g',
    fun r e2 σ' v H' G' p s' g' rr => rt _ _ _ _ _ _ p (s.trans s') g' rr⟩
  cases k with
  | true => exact go wa (brB_t p)
  | false => exact go wb (brB_f p)
theorem pss_consD {a : Stmt} {r : List Stmt} {wa wr : En → AK → Prop} (ha : PS X a (tSt X.K wa)) (hr : PSs X r (tSt X.K wr)) : PSs X (a :: r) (tSt X.K fun env K => wa env { K with nx := fun e1 => stp (wr e1 K) }) := by
  refine pss_imp (pss_cons ha hr) ?_
  rintro Dn σ H ⟨B, Fr, G, env, P, g, hw, nx, bk, ct, rt⟩
  refine ⟨B, Fr, G, env, _, g, hw, fun e1 σ1 H1 G1 p s g1 => ?_, bk, ct, rt⟩
  exact ⟨B, Fr, G1, e1, P, g1, stp_get p, fun e2 σ' H' G' p s' g' => nx _ _ _ _ p (s.trans s') g', fun e2 σ' H' G' p s' g' => bk _ _ _ _ p (s.trans s') g', fun e2 σ' H' G' p s' g' => ct _ _ _ _ p (s.trans s') g',
    fun r e2 σ' v H' G' p s' g' rr => rt _ _ _ _ _ _ p (s.trans s') g' rr⟩
theorem pss_nilD : PSs X [] (tSt X.K fun env K => K.nx env) := by
  refine pss_imp pss_nil ?_
  rintro Dn σ H ⟨B, Fr, G, env, P, g, hw, nx, bk, ct, rt⟩
  exact nx _ _ _ _ hw (Same.refl G) g
theorem ps_whlD {c : Expr} {b : List Stmt} {t : WB} {wb : En → AK → Prop} (hx : X.xe = fun _ _ => False) (hc : PT X c (tW X.K t)) (hb : PSs X b (tSt X.K wb)) : PS X (.While c b [] pos) (tSt X.K fun env K => stp (∃ n, wLoop t wb n env K)) := by
  refine ps_imp (ps_while (by rw [hx]; exact PassesOwn.never) hc hb) ?_
  rintro Dn σ H ⟨B, Fr, G, env, P, g, hw, nx, bk, ct, rt⟩
  obtain ⟨n, hw⟩ := stp_get hw
  refine ⟨fun m σ H => ∃ G1 e1, Same G G1 ∧ Gh X.K B Fr G1 e1 σ H ∧ wLoop t wb m e1 P, ⟨n, G, env, Same.refl G, g, hw⟩, ?_⟩
  rintro m σ1 H1 ⟨G1, e1, s1, g1, h1⟩
  cases m with
  | zero => exact h1.elim
  | succ m =>
    refine ⟨B, Fr, G1, e1, _, g1, h1, fun k e2 H2 G2 p s2 g2 => ?_⟩
    cases k with
    | false => exact nx _ _ _ _ (brB_f p) (s1.trans s2) g2
    | true =>
      replace p := brB_t p
      refine ⟨fun σ' H' => ∃ G3 e3, Same G G3 ∧ Gh X.K B Fr G3 e3 σ' H' ∧ wLoop t wb m e3 P, fun σ' H' z => ⟨m, Nat.lt_succ_self m, z⟩, ?_⟩
      exact ⟨B, Fr, G2, e2, _, g2, p, fun e3 σ' H' G' p s' g' => ⟨G', e3, (s1.trans s2).trans s', g', p⟩, fun e3 σ' H' G' p s' g' => nx _ _ _ _ p ((s1.trans s2).trans s') g', fun e3 σ' H' G' p s' g' => ⟨G', e3, (s1.trans s2).trans s', g', p⟩,
        fun r e3 σ' v H' G' p s' g' rr => rt _ _ _ _ _ _ p ((s1.trans s2).trans s') g' rr⟩
theorem Rr.unlock {K : Fg} {Fr G : Hp} {env : En} {σ : Sg} {H : Hp} {wk : Wk} {v : V} {r : Sl} (h : Rr K Fr G env σ H v r) (st : stillW env wk) : Rr K Fr G (unlockW env wk) σ H v r := by
  cases r with
  | no => exact h
  | val d => exact h
  | scr ns => exact h
  | own m ds =>
    obtain ⟨rfl, a, xs, rfl, h1, h2, h3, h4, h5⟩ := h
    exact ⟨rfl, a, xs, rfl, h1, h2, h3, h4, h5.unlock st⟩
theorem ps_forD {tg iter : Expr} {b : List Stmt} {g : Tg} {vs : List Nat} {wi : En → (Wk → En → Prop) → Prop} {wb : En → AK → Prop} (hx : X.xe = fun _ _ => False) (hc : X.calm = true) (hi : PI X tg iter (tIt X.K wi)) (hg : PG X tg (tTg X.K vs (bindT g))) (hb : PSs X b (tSt X.K wb)) (hs : ∀ x, foldedSetIterable iter X.env x = pure x) :
    PS X (.For tg iter b [] pos) (tSt X.K (mFor g wi wb)) := by
  refine ps_imp (ps_for (by rw [hx]; exact PassesOwn.never) hc hi hg hb hs) ?_
  rintro Dn σ H ⟨B, Fr, G, env, P, g0, hw, nx, bk, ct, rt⟩
  refine ⟨B, Fr, G, env, _, g0, hw, fun wk e1 J H1 G1 p s g1 ok jw => ?_⟩
  replace p := stp_get p
  have gl := g1.lock ok
  have lk := g1.lkB ok
  refine ⟨fun i m σ' H' => m = wk.ds.length - i ∧ i ≤ wk.ds.length ∧ ∃ G2 e2, Same G1 G2 ∧ Gh X.K (lockB B σ wk) Fr G2 e2 σ' H' ∧
    wFor (fun e => stillW e wk) (bindT g) wb (wk.ds.drop i) e2 { nx := fun e2 => P.nx (unlockW e2 wk), rt := fun r e2 => P.rt r (unlockW e2 wk) }, ⟨_, rfl, Nat.zero_le _, G1, _, Same.refl G1, gl, p⟩, ?_⟩
  rintro i m σ2 H2 ⟨rfl, hi, G2, e2, s2, g2, h2⟩
  by_cases hlt : i < wk.ds.length
  · rw [List.drop_eq_getElem_cons hlt] at h2
    obtain ⟨st, h2⟩ := h2
    obtain ⟨go, yl⟩ := (jw Fr G2 e2 σ2 H2 (Same.refl Fr) s2 g2 st i).1 _ (List.getElem?_eq_getElem hlt)
    refine .inr ⟨go, fun σ' H' => ∃ G2 e2, Same G1 G2 ∧ Gh X.K (lockB B σ wk) Fr G2 e2 σ' H' ∧ wFor (fun e => stillW e wk) (bindT g) wb (wk.ds.drop (i + 1)) e2 { nx := fun e2 => P.nx (unlockW e2 wk), rt := fun r e2 => P.rt r (unlockW e2 wk) },
      fun σ' H' n => ⟨_, by omega, rfl, hlt, n⟩, fun x H3 y => ?_⟩
    obtain ⟨G3, s3, g3, rp, _⟩ := yl x H3 y
    refine ⟨_, Fr, G3, e2, _, _, g3, rp, h2, fun e4 σ4 H4 G4 p4 s4 g4 _ => ?_⟩
    have sT : Same G1 G4 := (s2.trans s3).trans s4
    exact ⟨_, Fr, G4, e4, _, g4, p4, fun e5 σ5 H5 G5 p5 s5 g5 => ⟨G5, e5, sT.trans s5, g5, p5⟩, fun e5 σ5 H5 G5 p5 s5 g5 => nx _ _ _ _ p5.2 ((s.trans sT).trans s5) (g5.unlock p5.1 lk), fun e5 σ5 H5 G5 p5 s5 g5 => ⟨G5, e5, sT.trans s5, g5, p5⟩,
      fun r e5 σ5 v H5 G5 p5 s5 g5 rr => rt _ _ _ _ _ _ p5.2 ((s.trans sT).trans s5) (g5.unlock p5.1 lk) (rr.unlock p5.1)⟩
  · have e0 : i = wk.ds.length := by omega
    subst e0
    rw [List.drop_length] at h2
    obtain ⟨st, h2⟩ := h2
    exact .inl ⟨(jw Fr G2 e2 σ2 H2 (Same.refl Fr) s2 g2 st _).2 (Nat.le_refl _), nx _ _ _ _ h2 (s.trans s2) (g2.unlock st lk)⟩
end
end DL

set_option Elab.async false
set_option linter.all false
set_option maxRecDepth 100000
set_option maxHeartbeats 4000000
/-! DLn: a def keeps the promise of its term; the law's end. -/
namespace DL
open PySem PySem.Spec PyProof.Rows L2
def isComp : Expr → Bool
  | .ListComp _ _ _ _ => true
  | .SetComp _ _ _ _ => true
  | .DictComp _ _ _ _ _ => true
  | _ => false
theorem sw_no {x : Expr} {tg : Option Expr} {l : Nat} {env : Env} (h : isComp x = false) : swapsWith x tg l env = pure false := by cases x <;> first | rfl | cases h
section
variable {s : Stat} {T : Tab} {k : Nat} {N : List Str}
def isLcE : E → Bool
  | .lc _ _ _ _ _ => true
  | _ => false
theorem not_comp {sc : Scope} {e : E} {x : Expr} (hn : isLcE e = false) (h : mE s N sc e x = true) : isComp x = false := by
  cases e <;> (try cases hn) <;> unfold mE at h <;> obtain ⟨r, e, h⟩ := ob_t h
  · obtain ⟨_, _, rfl⟩ := vConst_ok e; rfl
  · obtain ⟨_, rfl⟩ := vName_ok e; rfl
  · obtain ⟨_, rfl⟩ := vName_ok e; rfl
  · obtain ⟨_, rfl⟩ := vBin_ok e; rfl
  · obtain ⟨_, rfl⟩ := vNeg_ok e; rfl
  · obtain ⟨_, rfl⟩ := vCmp_ok e; rfl
  · obtain ⟨_, rfl⟩ := vChain_ok e; rfl
  · obtain ⟨_, rfl⟩ := vChain3_ok e; rfl
  · obtain ⟨_, rfl⟩ := vCmp_ok e; rfl
  · rcases vAnd_ok e with ⟨_, rfl⟩ | ⟨_, _, _, _, rfl, _⟩ <;> rfl
  · rcases vOr_ok e with ⟨_, rfl⟩ | ⟨_, _, _, _, rfl, _⟩ <;> rfl
  · obtain ⟨_, rfl⟩ := vNot_ok e; rfl
  · obtain ⟨_, rfl⟩ := vIf_ok e; rfl
  · obtain ⟨_, _, rfl⟩ := vTup_ok e; rfl
  · obtain ⟨_, rfl⟩ := vLst_ok e; rfl
  · obtain ⟨_, rfl, _⟩ := vIx_ok e; rfl
  · obtain ⟨_, _, rfl⟩ := vSl_ok e; rfl
  · obtain ⟨_, _, _, _, _, rfl⟩ := vRev_ok e; rfl
  · obtain ⟨_, _, rfl⟩ := vCall_ok e; rfl
  · obtain ⟨_, _, rfl⟩ := vCall_ok e; rfl
  · obtain ⟨_, _, rfl⟩ := vCall_ok e; rfl
  · obtain ⟨_, _, rfl⟩ := vCall_ok e; rfl
theorem sw_lc {elt tg it : Expr} {ifs : List Expr} {scope : Scope} {pos py : Pos} {y : Str} {l : Nat} {env : Env} : ∃ b, swapsWith (.ListComp elt [⟨tg, it, ifs, 0⟩] scope pos) (some (.Name y py)) l env = pure b ∧ (b = true → env.kindOf y = some .local) := by
  refine ⟨_, rfl, fun h => ?_⟩
  rw [Bool.and_eq_true, Bool.and_eq_true, Bool.and_eq_true] at h
  exact beq_iff_eq.mp h.1.1.2
theorem mNs_at : ∀ {is : List Nat} {ts : List Expr} {sc : Scope}, mNs N sc is ts = true → ts.length = is.length ∧ ∀ (j : Nat) t i, ts[j]? = some t → is[j]? = some i → ∃ x p, t = Expr.Name x p ∧ N[i]? = some x ∧ loc sc x = true
  | [], [], sc, h => ⟨rfl, fun j t i e => by simp at e⟩
  | [], _ :: _, sc, h => by cases h
  | _ :: _, [], sc, h => by cases h
  | i :: is, t :: ts, sc, h => by
    unfold mNs at h
    obtain ⟨h1, h2⟩ := an h
    have hz := ob_t h1; clear h1; obtain ⟨id, e, h1⟩ := hz
    obtain ⟨p, rfl⟩ := vName_ok e
    obtain ⟨h3, h4⟩ := an h1
    obtain ⟨hl, ih⟩ := mNs_at h2
    refine ⟨by simp [hl], fun j t' i' e1 e2 => ?_⟩
    cases j with
    | zero => simp at e1 e2; subst e1 e2; exact ⟨id, p, rfl, of_decide_eq_true h3, h4⟩
    | succ j => exact ih j t' i' (by simpa using e1) (by simpa using e2)
theorem isL_ok {sc : Scope} {X : Cx} (c : Cxt T k N sc X) {x : Str} (h : loc sc x = true) : (X.env.kindOf x == some .local) = isL sc x := by
  unfold loc at h
  split at h
  · rename_i q
    rcases c.nm x _ q with z | ⟨z, _⟩
    · show (X.env.scope.names.lookup x == some .local) = isL sc x
      rw [z]; unfold isL; rw [q]; rfl
    · cases z
  · rename_i q
    rcases c.nm x _ q with z | ⟨z, _⟩
    · show (X.env.scope.names.lookup x == some .local) = isL sc x
      rw [z]; unfold isL; rw [q]; rfl
    · cases z
  · cases h
theorem name_in : ∀ {is : List Nat} {ts : List Expr} {sc : Scope}, mNs N sc is ts = true → ∀ id q, Expr.Name id q ∈ ts → loc sc id = true := fun {is ts sc} h id q hm => by
  obtain ⟨hl, at_⟩ := mNs_at h
  obtain ⟨j, hj, e⟩ := List.getElem_of_mem hm
  obtain ⟨x, p, e1, _, h2⟩ := at_ j _ (is[j]'(by omega)) (List.getElem?_eq_getElem hj) (List.getElem?_eq_getElem (by omega))
  rw [e] at e1
  cases e1
  exact h2
theorem mNs_star : ∀ {is : List Nat} {ts : List Expr} {sc : Scope} (env : Env), mNs N sc is ts = true → (assignEach ts env).findIdx? (·.1) = none
  | [], [], sc, env, h => rfl
  | [], _ :: _, sc, env, h => by cases h
  | _ :: _, [], sc, env, h => by cases h
  | i :: is, t :: ts, sc, env, h => by
    unfold mNs at h
    obtain ⟨h1, h2⟩ := an h
    have hz := ob_t h1; clear h1; obtain ⟨id, e, h1⟩ := hz
    obtain ⟨p, rfl⟩ := vName_ok e
    rw [each_cons (e := .Name id p) (es := ts) (env := env) rfl, List.findIdx?_cons, mNs_star env h2]
    rfl
theorem sRs (t : TabOk s T k) : ∀ (es : Es) {sc : Scope} {xs : List Expr} {X : Cx}, mEs s N sc es xs = true → Cxt T k N sc X → PA X xs (tRs X.K (wRs (wCall s.fns k) (refsOf s) es))
  | .nil, sc, [], X, h, c => by unfold wRs; exact pa_nilR
  | .nil, sc, _ :: _, X, h, c => by unfold mEs at h; cases h
  | .cons e es, sc, [], X, h, c => by unfold mEs at h; cases h
  | .cons e es, sc, x :: xs, X, h, c => by
    unfold mEs at h
    obtain ⟨h, h3⟩ := an h
    obtain ⟨h1, h2⟩ := an h
    unfold wRs
    exact pa_consS (notStar_ok h1) (sE t e h2 c) (sRs t es h3 c)
theorem isL_lk {sc : Scope} {X : Cx} (c : Cxt T k N sc X) {x : Str} (h : isL sc x = true) : X.env.scope.names.lookup x = some .local := by
  unfold isL at h
  split at h
  · rename_i q
    rcases c.nm x _ q with z | ⟨z, _⟩
    · exact z
    · cases z
  · cases h
theorem lcl_len {kl : Str → Bool} {l : Nat} : ∀ {ts : List Expr}, (ts.filterMap (lcl kl l)).length = ts.length → ∀ t ∈ ts, ∃ x, lcl kl l t = some x
  | [], _, t, ht => by simp at ht
  | t0 :: ts, h, t, ht => by
    rw [List.filterMap_cons] at h
    cases q : lcl kl l t0 with
    | none =>
      rw [q] at h
      have := List.length_filterMap_le (lcl kl l) ts
      simp at h
      omega
    | some x =>
      rw [q] at h
      rcases List.mem_cons.mp ht with rfl | ht
      · exact ⟨x, q⟩
      · exact lcl_len (ts := ts) (by simpa using h) t ht
theorem lcl_name {kl : Str → Bool} {l : Nat} {x y : Str} {p : Pos} (h : lcl kl l (.Name x p) = some y) : y = x ∧ kl x = true := by
  have h' : (if (kl x && p.line == l) = true then some x else none) = some y := h
  by_cases c : (kl x && p.line == l) = true
  · rw [if_pos c] at h'
    rw [Bool.and_eq_true] at c
    exact ⟨(Option.some.inj h').symm, c.1⟩
  · rw [if_neg c] at h'
    cases h'
theorem sPar (t : TabOk s T k) {is : List Nat} {es : Es} {sc : Scope} {ts vs : List Expr} {X : Cx} {kt k2 : Nat} {pt p2 pos : Pos} (c : Cxt T k N sc X) (h1 : (swS (isL sc) ts vs).isSome = true) (h2 : is.length ≤ 1000) (h3 : is.Nodup) (h4 : mNs N sc is ts = true) (h5 : mEs s N sc es vs = true) :
    PS X (.Assign [.Tuple ts kt pt] (.Tuple vs k2 p2) pos) (tSt X.K (mPar is (wRs (wCall s.fns k) (refsOf s) es))) := by
  obtain ⟨r, hr⟩ := Option.isSome_iff_exists.mp h1
  have hN : X.N.Nodup := by rw [c.xN]; exact c.nd
  obtain ⟨hl, at_⟩ := mNs_at h4
  have hw := swS_ok (k := kt) (k2 := k2) (p := pt) (p2 := p2) (blkKind c.kind) (fun id q hm => isL_ok c (name_in h4 id q hm)) hr
  have ha := sRs t es h5 c
  cases r with
  | none =>
    refine ps_parG c.calm hN hl (fun j t i e1 e2 => ?_) (mNs_star X.env h4) ha ?_ hw
    · obtain ⟨x, p, e3, e4, e5⟩ := at_ j t i e1 e2
      obtain ⟨l1, l2⟩ := c.loc e5
      exact ⟨x, p, e3, by rw [c.xN]; exact e4, l1, l2⟩
    · rw [hl]
      exact Nat.le_trans h2 (by decide)
  | some names =>
    unfold swS at hr
    split at hr
    · cases hr
    rename_i c1
    split at hr
    · cases hr
    dsimp only at hr
    split at hr
    · cases hr
    rename_i c3
    split at hr
    · cases hr
    split at hr
    · cases hr
    injection hr with hr
    injection hr with hr
    have e1 : (ts.length = 2 ∨ ts.length = 3) ∧ vs.length = ts.length := by
      simp only [Bool.or_eq_true, Bool.not_eq_true', bne_iff_ne, ne_eq, not_or, Bool.or_eq_false_iff, beq_iff_eq] at c1
      constructor
      · have := c1.1
        by_cases q2 : ts.length = 2
        · exact .inl q2
        · right
          by_cases q3 : ts.length = 3
          · exact q3
          · exfalso
            apply this
            simp [q2, q3]
      · exact Decidable.not_not.mp c1.2
    have e2 : (ts.filterMap (lcl (isL sc) ((ts.head?.map (·.pos.line)).getD 0))).length = ts.length := by
      simp only [Bool.or_eq_true, bne_iff_ne, ne_eq, not_or] at c3
      exact Decidable.not_not.mp c3.1
    have all := lcl_len e2
    rcases e1 with ⟨e1 | e1, e3⟩
    · obtain ⟨t1, t2, rfl⟩ : ∃ t1 t2, ts = [t1, t2] := by
        match ts, e1 with
        | [t1, t2], _ => exact ⟨t1, t2, rfl⟩
      obtain ⟨i, j, rfl⟩ : ∃ i j, is = [i, j] := by
        match is, hl with
        | [i, j], _ => exact ⟨i, j, rfl⟩
      obtain ⟨a, b, rfl⟩ : ∃ a b, vs = [a, b] := by
        match vs, e3 with
        | [a, b], _ => exact ⟨a, b, rfl⟩
      · obtain ⟨x, px, rfl, x1, x2⟩ := at_ 0 t1 i rfl rfl
        obtain ⟨y, py, rfl, y1, y2⟩ := at_ 1 t2 j rfl rfl
        obtain ⟨x', ex⟩ := all (.Name x px) (by simp)
        obtain ⟨y', ey⟩ := all (.Name y py) (by simp)
        obtain ⟨hx1, hx2⟩ := lcl_name ex
        obtain ⟨hy1, hy2⟩ := lcl_name ey
        subst hx1 hy1
        rw [List.filterMap_cons, List.filterMap_cons, ex, ey] at hr
        have hn : names = [x', y'] := hr.symm
        subst hn
        exact ps_par2 c.calm hN (by rw [c.xN]; exact x1) (by rw [c.xN]; exact y1) (by simpa using h3) (isL_lk c hx2) (isL_lk c hy2) ha hw
    · obtain ⟨t1, t2, t3, rfl⟩ : ∃ t1 t2 t3, ts = [t1, t2, t3] := by
        match ts, e1 with
        | [t1, t2, t3], _ => exact ⟨t1, t2, t3, rfl⟩
      obtain ⟨i, j, l, rfl⟩ : ∃ i j l, is = [i, j, l] := by
        match is, hl with
        | [i, j, l], _ => exact ⟨i, j, l, rfl⟩
      obtain ⟨a, b, d, rfl⟩ : ∃ a b d, vs = [a, b, d] := by
        match vs, e3 with
        | [a, b, d], _ => exact ⟨a, b, d, rfl⟩
      · obtain ⟨x, px, rfl, x1, x2⟩ := at_ 0 t1 i rfl rfl
        obtain ⟨y, py, rfl, y1, y2⟩ := at_ 1 t2 j rfl rfl
        obtain ⟨z, pz, rfl, z1, z2⟩ := at_ 2 t3 l rfl rfl
        obtain ⟨x', ex⟩ := all (.Name x px) (by simp)
        obtain ⟨y', ey⟩ := all (.Name y py) (by simp)
        obtain ⟨z', ez⟩ := all (.Name z pz) (by simp)
        obtain ⟨hx1, hx2⟩ := lcl_name ex
        obtain ⟨hy1, hy2⟩ := lcl_name ey
        obtain ⟨hz1, hz2⟩ := lcl_name ez
        subst hx1 hy1 hz1
        rw [List.filterMap_cons, List.filterMap_cons, List.filterMap_cons, ex, ey, ez] at hr
        have hn : names = [x', y', z'] := hr.symm
        subst hn
        have hnd : i ≠ j ∧ i ≠ l ∧ j ≠ l := by
          simp at h3
          exact ⟨h3.1.1, h3.1.2, h3.2⟩
        exact ps_par3D c.calm hN (by rw [c.xN]; exact x1) (by rw [c.xN]; exact y1) (by rw [c.xN]; exact z1) hnd.1 hnd.2.1 hnd.2.2 (isL_lk c hx2) (isL_lk c hy2) (isL_lk c hz2) ha hw
theorem mTgs_names : ∀ {ts : List Tg} {es : List Expr} {sc : Scope}, mTgs N sc ts es = true → ∀ id q, Expr.Name id q ∈ es → loc sc id = true
  | [], [], sc, h, id, q, hm => by simp at hm
  | [], _ :: _, sc, h, id, q, hm => by unfold mTgs at h; cases h
  | _ :: _, [], sc, h, id, q, hm => by simp at hm
  | t :: ts, e :: es, sc, h, id, q, hm => by
    unfold mTgs at h
    obtain ⟨h, h3⟩ := an h
    obtain ⟨h1, h2⟩ := an h
    rcases List.mem_cons.mp hm with e0 | hm
    · subst e0
      cases t with
      | n i =>
        unfold mTg at h2
        obtain ⟨id', e1, h4⟩ := ob_t h2
        cases e1
        exact (an h4).2
      | t ts =>
        unfold mTg at h2
        obtain ⟨_, e1, _⟩ := ob_t h2
        cases e1
    · exact mTgs_names h3 id q hm
theorem mTg_names {ts : List Tg} {es : List Expr} {sc : Scope} {kt : Nat} {pt : Pos} (h : mTg N sc (.t ts) (.Tuple es kt pt) = true) : ∀ id q, Expr.Name id q ∈ es → loc sc id = true := by
  unfold mTg at h
  obtain ⟨es', e1, h4⟩ := ob_t h
  cases e1
  exact mTgs_names h4
/-- y = [..] -/
theorem sAsgLc (t : TabOk s T k) {i : Nat} {e : E} {g : Tg} {it : It} {q : Eo} {own : List Nat} {sc : Scope} {y : Str} {py pos : Pos} {x : Expr} {X : Cx} (c : Cxt T k N sc X) (hi : N[i]? = some y) (hl : loc sc y = true) (h : mE s N sc (.lc e g it q own) x = true) :
    PS X (.Assign [.Name y py] x pos) (tSt X.K (mAsg (.n i) (wE' s k (.lc e g it q own)))) := by
  have hx := sE t (.lc e g it q own) h c
  unfold mE at h
  have hz := ob_t h; clear h; obtain ⟨⟨elt, tg, iter, ifs, scope⟩, e0, h⟩ := hz
  obtain ⟨p, rfl⟩ := vLc_ok e0
  have hN : X.N.Nodup := by rw [c.xN]; exact c.nd
  have hi' : X.N[i]? = some y := by rw [c.xN]; exact hi
  obtain ⟨l1, l2⟩ := c.loc hl
  obtain ⟨b, hb, hb2⟩ := sw_lc (elt := elt) (tg := tg) (it := iter) (ifs := ifs) (scope := scope) (pos := p) (py := py) (y := y) (l := pos.line) (env := X.env)
  cases b with
  | false => exact ps_asgN hN hi' l1 l2 hx hb
  | true =>
    obtain ⟨h, h7⟩ := an h
    obtain ⟨h, h6⟩ := an h
    obtain ⟨h, h5⟩ := an h
    obtain ⟨h, h4⟩ := an h
    obtain ⟨h, h3⟩ := an h
    obtain ⟨h1, h2⟩ := an h
    dsimp only at h1 h3 h4 h5 h6 h7
    have cb := fun s' H C cl fp => c.blk (scope := scope) (blkOk_by h1).kind s' H C cl fp
    have key := ps_setLc (i := i) (wi := tIt X.K (wIt (wCall s.fns k) (refsOf s) it)) (g := tTg X.K (tgS g) (bindT g)) (tt := tW X.K (wTo (wCall s.fns k) (refsOf s) q)) (te := tD X.K (opD (wE' s k e))) (own := own.map fun i => (N.getD i Str.empty, i)) c.calm hN hi' (hb2 rfl) hb (sIt t it h5 c) (c.blkOk h1)
      (fun s' H C cl fp => sTg g h3 (cb s' H C cl fp)) (fun s' H C cl fp => sTo t q h6 (cb s' H C cl fp)) (fun s' H C cl fp => show PE _ elt _ from d_of (sE t e h7 (cb s' H C cl fp))) (notSet_fold h4 X.env)
    refine ps_imp key ?_
    have ho : (own.map fun i => (N.getD i Str.empty, i)).map (·.2) = own := by simp [Function.comp_def]
    have hw0 : wE' s k (.lc e g it q own) = mLc (opD (wE' s k e)) g (wIt (wCall s.fns k) (refsOf s) it) (wTo (wCall s.fns k) (refsOf s) q) own := rfl
    rw [ho, hw0]
    rintro Dn σ H ⟨B, Fr, G, env, P, g0, hw, nx, bk, ct, rt⟩
    refine lc_of (of_decide_eq_true h2) σ H _ ⟨B, Fr, G, env, _, g0, hw, fun r e1 v H1 G1 p s g1 rr => nx _ _ _ _ p.2 s (g1.store rr)⟩
set_option maxHeartbeats 16000000
mutual
theorem sS (t : TabOk s T k) : ∀ (a : S) {sc : Scope} {x : Stmt} {X : Cx}, mS s N sc a x = true → Cxt T k N sc X → PS X x (tSt X.K (wS (wCall s.fns k) (refsOf s) a))
  | .asg g e, sc, x, X, h, c => by
    unfold mS at h
    have hz := ob_t h; clear h; obtain ⟨⟨tg, v⟩, e0, h⟩ := hz
    obtain ⟨p, rfl⟩ := vAsg_ok e0
    clear e0
    dsimp only at h ⊢
    obtain ⟨h, h3⟩ := an h
    obtain ⟨h1, h2⟩ := an h
    have hN : X.N.Nodup := by rw [c.xN]; exact c.nd
    unfold wS
    cases g with
    | n i =>
      have h1' := h1
      unfold mTg at h1
      have hz := ob_t h1; clear h1; obtain ⟨id, e1, h1⟩ := hz
      obtain ⟨px, e2⟩ := vName_ok e1
      subst e2
      obtain ⟨h4, h5⟩ := an h1
      obtain ⟨l1, l2⟩ := c.loc h5
      cases hl : isLcE e with
      | true =>
        cases e <;> try cases hl
        exact sAsgLc t c (of_decide_eq_true h4) h5 h2
      | false => exact ps_asgN hN (by rw [c.xN]; exact of_decide_eq_true h4) l1 l2 (sE t e h2 c) (sw_no (not_comp hl h2))
    | t ts =>
      have h1' := h1
      unfold mTg at h1
      have hz := ob_t h1; clear h1; obtain ⟨es, e1, h1⟩ := hz
      obtain ⟨kt, pt, e2⟩ := vTup_ok e1
      subst e2
      have hs : swapsWithSole [.Tuple es kt pt] v p.line X.env = pure false := by cases v <;> rfl
      have hw : swappedStores [.Tuple es kt pt] v X.env = pure none := by
        cases v <;> first
          | rfl
          | (rename_i vs k2 p2
             exact swS_ok (kl := isL sc) (blkKind c.kind) (fun id q hm => isL_ok c (mTg_names h1' id q hm)) (of_decide_eq_true h3))
      exact ps_imp (ps_asg (sE t e h2 c) (sTg (.t ts) h1' c) hs hw rfl) (fun Dn σ H q => asg_t Dn σ H q)
  | .par is es, sc, x, X, h, c => by
    unfold mS at h
    have hz := ob_t h; clear h; obtain ⟨⟨tg, v⟩, e0, h⟩ := hz
    obtain ⟨p, rfl⟩ := vAsg_ok e0
    clear e0
    dsimp only at h ⊢
    have hz := ob_t h; clear h; obtain ⟨ts, e1, h⟩ := hz
    obtain ⟨kt, pt, f1⟩ := vTup_ok e1
    clear e1
    have hz := ob_t h; clear h; obtain ⟨vs, e2, h⟩ := hz
    obtain ⟨k2, p2, f2⟩ := vTup_ok e2
    clear e2
    subst f1 f2
    obtain ⟨h, h5⟩ := an h
    obtain ⟨h, h4⟩ := an h
    obtain ⟨h, h3⟩ := an h
    obtain ⟨h1, h2⟩ := an h
    unfold wS
    exact sPar t c h1 (of_decide_eq_true h2) (of_decide_eq_true h3) h4 h5
  | .set i kx e, sc, x, X, h, c => by
    unfold mS at h
    have hz := ob_t h; clear h; obtain ⟨⟨tg, v⟩, e0, h⟩ := hz
    obtain ⟨p, rfl⟩ := vAsg_ok e0
    clear e0
    dsimp only at h ⊢
    have hz := ob_t h; clear h; obtain ⟨⟨o, ix⟩, e1, h⟩ := hz
    have hns := vIx_ns e1
    obtain ⟨tp, f2, _⟩ := vIx_ok e1
    dsimp only at f2 hns h
    clear e1
    subst f2
    obtain ⟨h, h3⟩ := an h
    obtain ⟨h1, h2⟩ := an h
    unfold mE at h1
    have hz := ob_t h1; clear h1; obtain ⟨id, e3, h1⟩ := hz
    obtain ⟨px, f4⟩ := vName_ok e3
    clear e3
    subst f4
    obtain ⟨h7, h6⟩ := an h1
    obtain ⟨h4, h5⟩ := an h7
    unfold wS
    exact ps_setD (a := v) (by rw [c.xN]; exact of_decide_eq_true h4) (c.vis h5) (okN_d h6).1 (okN_d h6).2 hns (d_of (sE t kx h2 c)) (d_of (sE t e h3 c))
  | .app i e, sc, x, X, h, c => by
    unfold mS at h
    have hz := ob_t h; clear h; obtain ⟨v, e0, h⟩ := hz
    obtain ⟨p, rfl⟩ := vExpr_ok e0
    have hz := ob_t h; clear h; obtain ⟨⟨o, y⟩, e1, h⟩ := hz
    obtain ⟨ap, cp, f2, hl⟩ := vApp_ok e1
    dsimp only at f2 h
    clear e1
    subst f2
    obtain ⟨h, h3⟩ := an h
    obtain ⟨h1, h2⟩ := an h
    unfold mE at h1
    have hz := ob_t h1; clear h1; obtain ⟨id, e3, h1⟩ := hz
    obtain ⟨px, f4⟩ := vName_ok e3
    clear e3
    subst f4
    obtain ⟨h1, h6⟩ := an h1
    obtain ⟨h4, h5⟩ := an h1
    unfold wS
    exact ps_appD (by rw [c.xN]; exact of_decide_eq_true h4) (c.vis h5) (okN_d h6).1 (okN_d h6).2 (notStar_ok h2) (d_of (sE t e h3 c)) hl
  | .ex e, sc, x, X, h, c => by
    unfold mS at h
    have hz := ob_t h; clear h; obtain ⟨v, e0, h⟩ := hz
    obtain ⟨p, rfl⟩ := vExpr_ok e0
    obtain ⟨h1, h2⟩ := an h
    obtain ⟨r, e1⟩ := Option.isSome_iff_exists.mp h1
    have q := sE t e h2 c
    obtain ⟨p1, p2, rfl⟩ := vCall_ok e1
    unfold wS
    exact ps_exD q rfl
  | .ret e, sc, x, X, h, c => by
    unfold mS at h
    have hz := ob_t h; clear h; obtain ⟨o, e0, h⟩ := hz
    obtain ⟨p, rfl⟩ := vRet_ok e0
    have hz := ob_t h; clear h; obtain ⟨v, e1, h⟩ := hz
    subst e1
    unfold wS
    cases e with
    | v i =>
      have h' := h
      unfold mE at h
      have hz := ob_t h; clear h; obtain ⟨id, e3, h⟩ := hz
      obtain ⟨px, e4⟩ := vName_ok e3
      subst e4
      obtain ⟨h, h6⟩ := an h
      obtain ⟨h4, h5⟩ := an h
      exact ps_retV (by rw [c.xN]; exact of_decide_eq_true h4) (c.vis h5) (okN_d h6).1 (okN_d h6).2 (by unfold wE; rfl)
    | _ => exact ps_retD (sE t _ h c)
  | .ret0, sc, x, X, h, c => by
    unfold mS at h
    have hz := ob_t h; clear h; obtain ⟨o, e0, h⟩ := hz
    obtain ⟨p, rfl⟩ := vRet_ok e0
    cases o with
    | some _ => cases h
    | none =>
      unfold wS
      refine ps_imp ps_retN ?_
      rintro Dn σ H ⟨B, Fr, G, env, P, g, hw, nx, bk, ct, rt⟩
      exact rt _ _ _ _ _ _ hw (Same.refl G) g .non
  | .ite q a b, sc, x, X, h, c => by
    unfold mS at h
    have hz := ob_t h; clear h; obtain ⟨⟨l, r, z⟩, e0, h⟩ := hz
    obtain ⟨p, rfl⟩ := vIfS_ok e0
    obtain ⟨h, h3⟩ := an h
    obtain ⟨h1, h2⟩ := an h
    unfold wS
    exact ps_ifD (sT t q h1 c).1 (sSs t a h2 c) (sSs t b h3 c)
  | .whl q b, sc, x, X, h, c => by
    unfold mS at h
    have hz := ob_t h; clear h; obtain ⟨⟨l, r⟩, e0, h⟩ := hz
    obtain ⟨p, rfl⟩ := vWhl_ok e0
    obtain ⟨h1, h2⟩ := an h
    unfold wS
    exact ps_whlD c.xe (sT t q h1 c).1 (sSs t b h2 c)
  | .for g it b, sc, x, X, h, c => by
    unfold mS at h
    have hz := ob_t h; clear h; obtain ⟨⟨tg, iter, l⟩, e0, h⟩ := hz
    obtain ⟨p, rfl⟩ := vFor_ok e0
    obtain ⟨h, h4⟩ := an h
    obtain ⟨h, h3⟩ := an h
    obtain ⟨h1, h2⟩ := an h
    unfold wS
    exact ps_forD c.xe c.calm (sIt t it h3 c) (sTg g h1 c) (sSs t b h4 c) (notSet_fold h2 X.env)
  | .pass, sc, x, X, h, c => by
    unfold mS at h
    obtain ⟨p, rfl⟩ := isPass_ok h
    unfold wS
    refine ps_imp ps_pass ?_
    rintro Dn σ H ⟨B, Fr, G, env, P, g, hw, nx, bk, ct, rt⟩
    exact nx _ _ _ _ hw (Same.refl G) g
  | .brk, sc, x, X, h, c => by
    unfold mS at h
    obtain ⟨p, rfl⟩ := isBrk_ok h
    unfold wS
    refine ps_imp ps_break ?_
    rintro Dn σ H ⟨B, Fr, G, env, P, g, hw, nx, bk, ct, rt⟩
    exact bk _ _ _ _ hw (Same.refl G) g
  | .cnt, sc, x, X, h, c => by
    unfold mS at h
    obtain ⟨p, rfl⟩ := isCnt_ok h
    unfold wS
    refine ps_imp ps_continue ?_
    rintro Dn σ H ⟨B, Fr, G, env, P, g, hw, nx, bk, ct, rt⟩
    exact ct _ _ _ _ hw (Same.refl G) g
  | .stop, sc, x, X, h, c => by
    unfold wS
    refine ps_imp ps_never ?_
    rintro Dn σ H ⟨B, Fr, G, env, P, g, hw, nx, bk, ct, rt⟩
    exact hw
theorem sSs (t : TabOk s T k) : ∀ (b : Ss) {sc : Scope} {xs : List Stmt} {X : Cx}, mSs s N sc b xs = true → Cxt T k N sc X → PSs X xs (tSt X.K (wSs (wCall s.fns k) (refsOf s) b))
  | .nil, sc, [], X, h, c => by unfold wSs; exact pss_nilD
  | .nil, sc, _ :: _, X, h, c => by unfold mSs at h; cases h
  | .cons a r, sc, [], X, h, c => by unfold mSs at h; cases h
  | .cons a r, sc, x :: xs, X, h, c => by
    unfold mSs at h
    obtain ⟨h1, h2⟩ := an h
    unfold wSs
    exact pss_consD (sS t a h1 c) (sSs t r h2 c)
end
end
end DL

set_option Elab.async false
set_option linter.all false
set_option maxRecDepth 100000
set_option maxHeartbeats 4000000
/-! DLo: defs, by levels; the law. -/
namespace DL
open PySem PySem.Spec PyProof.Rows L2
/-! ### a def's data -/
structure Df where
  name : Str
  st : Stmt
  N : List Str
  ps : List Str
  code : Fn
def statOf (ds : List Df) (free : List Str) (gl : List (Str × D)) : Stat := ⟨ds.map (·.name), ds.map (·.code), free, gl⟩
/-- parameters that are names alone -/
def plainPs (a : Arguments) (ps : List Str) : Bool := match a with
  | ⟨[], as, none, [], [], none, []⟩ => decide (as.map (·.arg) = ps) && decide ps.Nodup
  | _ => false
theorem zip_lookup : ∀ {ps : List Str} {us : List Value}, us.length = ps.length → ∀ n ∈ ps, ((ps.zip us).lookup n).isSome = true
  | p :: ps, u :: us, h, n, hn => by
    rw [List.zip_cons_cons, List.lookup_cons]
    by_cases e : n == p
    · rw [e]; rfl
    · simp only [e]
      rcases List.mem_cons.mp hn with rfl | hm
      · simp at e
      · exact zip_lookup (by simpa using h) n hm
theorem fm_congr {α β : Type} : ∀ {l : List α} {f g : α → Option β}, (∀ x ∈ l, f x = g x) → l.filterMap f = l.filterMap g
  | [], _, _, _ => rfl
  | x :: l, f, g, h => by
    rw [List.filterMap_cons, List.filterMap_cons, h x (List.mem_cons_self ..), fm_congr fun y hy => h y (List.mem_cons_of_mem _ hy)]
theorem zip_fm : ∀ {ps : List Str} {us : List Value}, us.length = ps.length → ps.Nodup → ps.filterMap (fun n => ((ps.zip us).lookup n).map (n, ·)) = ps.zip us
  | [], _, _, _ => rfl
  | p :: ps, u :: us, h, hn => by
    rw [List.zip_cons_cons, List.filterMap_cons]
    simp only [List.lookup_cons, BEq.rfl, Option.map_some]
    congr 1
    rw [← zip_fm (ps := ps) (us := us) (by simpa using h) (List.nodup_cons.mp hn).2]
    have := (List.nodup_cons.mp hn).1
    refine fm_congr fun n hm => ?_
    have e : (n == p) = false := by
      apply beq_false_of_ne
      rintro rfl
      exact this hm
    rw [e, zip_fm (by simpa using h) (List.nodup_cons.mp hn).2]
def okFn (s : Stat) (d : Df) : Bool :=
  (match (defScope d.st).kind with | .function => true | _ => false) && !(defScope d.st).isCoroutine && !(defScope d.st).isGenerator && decide d.N.Nodup && decide (d.N.take d.ps.length = d.ps) &&
    (d.ps.all fun x => loc (defScope d.st) x) && ((defScope d.st).names.all fun y => match y.2 with | .free => false | _ => true) &&
    plainPs (defArgs d.st) d.ps && decide (d.code.nl = d.N.length) && decide (d.code.np = d.ps.length) && mSs s d.N (defScope d.st) d.code.body (defBody d.st)
theorem bind_of {a : Arguments} {ps : List Str} (h : plainPs a ps = true) {x qual : Str} {body : List Stmt} {scope : Scope} (kV doc pm : Value) (ann : Option Addr) (cdv ct : Value) (us : List Value) (hl : us.length = ps.length) :
    bindArgs (PySem.W.fnOf x qual a body scope .none kV doc pm ann cdv ct) ⟨us, []⟩ = pure (ps.zip us) := by
  unfold plainPs at h
  split at h
  · rename_i as
    obtain ⟨h1, h2⟩ := an h
    have e1 : as.map (·.arg) = ps := of_decide_eq_true h1
    have hn : ps.Nodup := of_decide_eq_true h2
    subst e1
    have m : ((as.map (·.arg)).filter fun n => (((as.map (·.arg)).zip us).lookup n).isNone) = [] := by
      rw [List.filter_eq_nil_iff]
      intro n hm
      have := zip_lookup hl n hm
      rw [Option.isNone_eq_false_iff.mpr this]; simp
    have hl' : us.length = as.length := by simpa using hl
    have f := zip_fm hl hn
    unfold bindArgs PySem.W.fnOf
    have s : seqItems? Value.none = pure none := rfl
    have t : (as.map (·.arg)).take as.length = as.map (·.arg) := List.take_of_length_le (by simp)
    simp only [s, List.map_nil, List.nil_append, pure_bind, Option.getD_none, List.drop_nil, List.length_nil, Nat.sub_zero, List.length_map, hl', t, m]
    simp [hl', t, m]
    rw [← List.filterMap_map, f]
  · cases h
theorem okFn_scope {s : Stat} {d : Df} (h : okFn s d = true) : FnScope d.N d.ps (defScope d.st) ∧ plainPs (defArgs d.st) d.ps = true ∧ d.code.nl = d.N.length ∧ d.code.np = d.ps.length ∧ mSs s d.N (defScope d.st) d.code.body (defBody d.st) = true ∧ (∀ x ∈ d.ps, loc (defScope d.st) x = true) := by
  unfold okFn at h
  obtain ⟨h, h11⟩ := an h
  obtain ⟨h, h10⟩ := an h
  obtain ⟨h, h9⟩ := an h
  obtain ⟨h, h8⟩ := an h
  obtain ⟨h, h7⟩ := an h
  obtain ⟨h, h6⟩ := an h
  obtain ⟨h, h5⟩ := an h
  obtain ⟨h, h4⟩ := an h
  obtain ⟨h, h3⟩ := an h
  obtain ⟨h1, h2⟩ := an h
  have all := List.all_eq_true.mp h6
  refine ⟨⟨?_, by simpa using h2, by simpa using h3, of_decide_eq_true h4, of_decide_eq_true h5, fun x hx => ?_, fun y hy z => ?_⟩, h8, of_decide_eq_true h9, of_decide_eq_true h10, h11, all⟩
  · split at h1
    · rename_i q; exact q
    · cases h1
  · have q := all x hx
    unfold loc at q
    split at q
    · rename_i e; exact .inl e
    · rename_i e; exact .inr e
    · cases q
  · have q := List.all_eq_true.mp h7 y hy
    rw [z] at q
    cases q
/-! ### a def keeps its promise -/
section
variable {K : Fg} {B : Nat → Option Addr} {Fr G G' : Hp} {env : En} {σ : Sg} {H H' : Hp}
theorem Gh.open {args : List Sl} {vs : List V} {N : List Str} (g : Gh K B Fr G args (vs.map some) H) (n : Nat) (hn : n = N.length - vs.length) : Gh K B Fr G (args ++ List.replicate n .no) (L2.start N vs) H := by
  subst hn
  have hl : args.length = (vs.map some).length := g.len
  have at_ : ∀ {j : Nat} {s : Sl}, s ≠ .no → (args ++ List.replicate (N.length - vs.length) Sl.no)[j]? = some s → args[j]? = some s ∧ (L2.start N vs)[j]? = (vs.map some)[j]? := fun {j s} hs e => by
    by_cases hj : j < args.length
    · rw [List.getElem?_append_left hj] at e
      refine ⟨e, ?_⟩
      unfold L2.start
      rw [List.getElem?_append_left (by rw [← hl]; exact hj)]
    · rw [List.getElem?_append_right (by omega), List.getElem?_replicate] at e
      split at e
      · cases e; exact absurd rfl hs
      · cases e
  exact {
    gs := g.gs
    fs := g.fs
    dj := g.dj
    len := by unfold L2.start; rw [List.length_append, List.length_append, List.length_replicate, List.length_replicate, hl]
    val := fun j d e => by
      obtain ⟨h1, h2⟩ := at_ (by simp) e
      rw [h2]; exact g.val j d h1
    scr := fun j d e => by
      obtain ⟨h1, h2⟩ := at_ (by simp) e
      rw [h2]; exact g.scr j d h1
    own := fun j m d e => by
      obtain ⟨h1, h2⟩ := at_ (by simp) e
      rw [h2]; exact g.own j m d h1
    ap := fun i j m n ds es a e1 e2 s1 s2 => by
      obtain ⟨h1, h2⟩ := at_ (by simp) e1
      obtain ⟨k1, k2⟩ := at_ (by simp) e2
      rw [h2] at s1
      rw [k2] at s2
      exact g.ap i j m n ds es a h1 k1 s1 s2 }
theorem fits_at : ∀ {rs : List Bool} {as : List Sl}, fits rs as → ∀ j : Nat, rs[j]? = some true → ∃ ds, as[j]? = some (.own .bor ds)
  | [], _, _, j, e => by simp at e
  | true :: rs, [], h, _, _ => (show False from h).elim
  | false :: rs, [], h, _, _ => (show False from h).elim
  | true :: rs, .own .bor ds :: as, h, 0, e => ⟨ds, rfl⟩
  | true :: rs, .own .bor ds :: as, h, j + 1, e => by
    obtain ⟨es, q⟩ := fits_at (show fits rs as from h) j (by simpa using e)
    exact ⟨es, by simpa using q⟩
  | false :: rs, s :: as, h, 0, e => by simp at e
  | false :: rs, s :: as, h, j + 1, e => by
    obtain ⟨es, q⟩ := fits_at (show okSl s ∧ fits rs as from h).2 j (by simpa using e)
    exact ⟨es, by simpa using q⟩
  | true :: rs, .own .free _ :: as, h, _, _ => (show False from h).elim
  | true :: rs, .own .lck _ :: as, h, _, _ => (show False from h).elim
  | true :: rs, .no :: as, h, _, _ => (show False from h).elim
  | true :: rs, .val _ :: as, h, _, _ => (show False from h).elim
  | true :: rs, .scr _ :: as, h, _, _ => (show False from h).elim
theorem Gh.outs {args : List Sl} {vs : List V} {rs : List Bool} {G0 H0 : Hp} (g0 : Gh K B Fr G0 args (vs.map some) H0) (hf : fits rs args) (g : Gh K B Fr G env σ H) : Gh K B Fr G (outs rs env) (vs.map some) H ∧
    ∀ v r, Rr K Fr G env σ H v r → Rr K Fr G (DL.outs rs env) (vs.map some) H v r := by
  have at_ : ∀ {j : Nat} {s : Sl}, s ≠ .no → (DL.outs rs env)[j]? = some s → ∃ ds a, s = .own .bor ds ∧ env[j]? = some (.own .bor ds) ∧ (vs.map some)[j]? = some (some (.ref a)) ∧ B j = some a := fun {j s} hs e => by
    unfold DL.outs at e
    rw [List.getElem?_map] at e
    by_cases hj : j < rs.length
    · rw [List.getElem?_range hj] at e
      simp only [Option.map_some, Option.some.injEq] at e
      split at e
      · rename_i b s' q1 q2
        unfold outSl at e
        split at e
        · rename_i ds
          obtain ⟨es, q3⟩ := fits_at hf j q1
          obtain ⟨a, xs, k1, _, _, _, _, k6⟩ := g0.own j _ _ q3
          exact ⟨ds, a, e.symm, q2, k1, k6 (by simp)⟩
        · exact absurd e.symm hs
      · exact absurd e.symm hs
    · rw [List.getElem?_eq_none (by simpa using hj)] at e
      cases e
  have own_ : ∀ {j : Nat} {m : Md} {ds : List D}, (DL.outs rs env)[j]? = some (.own m ds) → env[j]? = some (.own m ds) ∧ (vs.map some)[j]? = σ[j]? := fun {j m ds} e => by
    obtain ⟨es, a, h1, h2, h3, h4⟩ := at_ (by simp) e
    cases h1
    obtain ⟨b, xs, k1, _, _, _, _, k6⟩ := g.own j _ _ h2
    have := k6 (by simp)
    rw [h4] at this; cases this
    exact ⟨h2, h3.trans k1.symm⟩
  refine ⟨⟨g.gs, g.fs, g.dj, ?_, fun j d e => ?_, fun j d e => ?_, fun j m ds e => ?_, fun i j m n ds es a e1 e2 s1 s2 => ?_⟩, fun v r h => ?_⟩
  · unfold DL.outs
    rw [List.length_map, List.length_range, ← fits_length hf]
    exact g0.len
  · obtain ⟨_, _, h, _⟩ := at_ (by simp) e; cases h
  · obtain ⟨_, _, h, _⟩ := at_ (by simp) e; cases h
  · obtain ⟨h1, h2⟩ := own_ e
    rw [h2]; exact g.own j m ds h1
  · obtain ⟨h1, h2⟩ := own_ e1
    obtain ⟨k1, k2⟩ := own_ e2
    rw [h2] at s1
    rw [k2] at s2
    exact g.ap i j m n ds es a h1 k1 s1 s2
  · cases r with
    | no => exact h
    | val d => exact h
    | scr ns => exact h
    | own m ds =>
      obtain ⟨rfl, a, xs, rfl, h1, h2, h3, h4, h5⟩ := h
      refine ⟨rfl, a, xs, rfl, h1, h2, h3, h4, fun j m es e z => ?_⟩
      obtain ⟨k1, k2⟩ := own_ e
      rw [k2] at z
      exact h5 j m es k1 z
end
/-- what the top has made of the defs -/
structure Made (s : Stat) (T : Tab) (ds : List Df) : Prop where
  st : ∃ free gl, s = statOf ds free gl
  ok : ∀ d ∈ ds, okFn s d = true
  free : ∀ x, s.free.contains x = true → T.mg x = none
  gl : ∀ p ∈ s.gl, ∃ u v, T.mg p.1 = some u ∧ RelV v u ∧ ∀ G, Rp T.K G v p.2
  fn : ∀ d ∈ ds, ∃ a fd, T.mg d.name = some (.ref a) ∧ FunD T.K d.name d.name (defArgs d.st) (defBody d.st) (defScope d.st) [] [] a fd
theorem Made.fnOk {s : Stat} {T : Tab} {ds : List Df} (m : Made s T ds) : ∀ (k f : Nat) (d : Df) (a : Addr) (fd : FuncData), ds[f]? = some d → FunD T.K d.name d.name (defArgs d.st) (defBody d.st) (defScope d.st) [] [] a fd →
    FnOk T.P T.w T.K T.mg T.base CX0 k a fd d.ps (spF T.K d.code.np (wCall s.fns k f)) := by
  intro k
  induction k with
  | zero =>
    intro f d a fd hd F
    obtain ⟨sc, hp, hnl, hnp, hm, hloc⟩ := okFn_scope (m.ok d (List.mem_of_getElem? hd))
    refine ⟨fun vs H Q E h => by rw [h.1, hnp], fun A outer s' H args us vs Q E _ _ _ _ h => ?_⟩
    obtain ⟨_, B, Fr, G, args', P, g, hw, q⟩ := h
    exact (show False from hw).elim
  | succ k ih =>
    intro f d a fd hd F
    have dm : d ∈ ds := List.mem_of_getElem? hd
    obtain ⟨sc, hp, hnl, hnp, hm, hloc⟩ := okFn_scope (m.ok d dm)
    have t : TabOk s T k := ⟨m.free, m.gl, fun f c hc => by
      obtain ⟨free, gl, hs⟩ := m.st
      have hd : ∃ d, ds[f]? = some d ∧ d.code = c := by
        rw [hs] at hc
        have hc' : (ds.map (·.code))[f]? = some c := hc
        rw [List.getElem?_map] at hc'
        obtain ⟨d, e1, e2⟩ := Option.map_eq_some_iff.mp hc'
        exact ⟨d, e1, e2⟩
      obtain ⟨d, hd, rfl⟩ := hd
      have dm : d ∈ ds := List.mem_of_getElem? hd
      obtain ⟨sc, hp, hnl, hnp, hm, hloc⟩ := okFn_scope (m.ok d dm)
      obtain ⟨a, fd, hmg, F⟩ := m.fn d dm
      have hn : s.names[f]? = some d.name := by
        rw [hs]
        show (ds.map (·.name))[f]? = some d.name
        rw [List.getElem?_map, hd]; rfl
      exact ⟨d.name, a, fd, d.ps, hn, hmg, F.kp, F.bindsN (bind_of hp), hnp.symm, ih f d a fd hd F⟩⟩
    have hc : s.fns[f]? = some d.code := by
      obtain ⟨free, gl, hs⟩ := m.st
      rw [hs]
      show (ds.map (·.code))[f]? = _
      rw [List.getElem?_map, hd]; rfl
    refine F.ok sc (fun vs H Q E h => by rw [h.1, hnp]) fun cdv A outer s' H vs Q E hr h => ?_
    obtain ⟨hlen, B, Fr, G, args, P, g, hw, q⟩ := h
    have hw' : oP s.fns[f]? fun c => fits c.refs args ∧ wSs (wCall s.fns k) (refsOf s) c.body (args ++ List.replicate (c.nl - c.np) .no) { nx := fun env => P (.val .none) (outs c.refs env), rt := fun r env => P r (outs c.refs env) } := hw
    rw [hc] at hw'
    obtain ⟨hf, hb⟩ := hw'
    have cx : Cxt T k d.N (defScope d.st) (cxOf CX0 T.P T.w T.K T.mg T.base d.N d.name (defScope d.st) a cdv A outer s' H E).nox := {
      prog := rfl, w := rfl, K := rfl, mg := rfl, base := rfl, xN := rfl, nd := sc.nd
      nm := fun x kd h => .inl h
      fn := fun x h => rfl
      kind := sc.kind
      calm := rfl
      room := hr
      xe := rfl }
    refine ⟨_, PSs.nox (sSs t d.code.body hm cx), ?_⟩
    have g' : Gh T.K B Fr G (args ++ List.replicate (d.code.nl - d.code.np) .no) (L2.start d.N vs) H := g.open _ (by rw [hnl, hlen])
    refine ⟨B, Fr, G, _, _, g', hb, fun e' σ' H' G' p s1 g1 => ?_, fun e' σ' H' G' p s1 g1 => p.elim, fun e' σ' H' G' p s1 g1 => p.elim, fun r e' σ' v H' G' p s1 g1 rr => ?_⟩
    · obtain ⟨g2, r2⟩ := g.outs hf g1
      exact q _ _ _ _ _ p s1 g2 .non
    · obtain ⟨g2, r2⟩ := g.outs hf g1
      exact q _ _ _ _ _ p s1 g2 (r2 v r rr)
/-! ### constants of the module -/
mutual
def rpB (K : Fg) : Value → D → Bool
  | u, .none => (match u with | .none => true | _ => false)
  | u, .bool b => (match u with | .bool c => b == c | _ => false)
  | u, .int i => (match u with | .int j _ => decide (i = j) | _ => false)
  | u, .str x => (match u with | .str y _ => decide (x = y) | _ => false)
  | u, .tuple ds => (match u with
    | .ref a => (match K.lookup a with
      | some ⟨.type c, _, .seq its _, _⟩ => decide (c = "tuple") && (decide (its.size ≤ sizeLine) && rpBs K its.toList ds)
      | _ => false)
    | _ => false)
  | _, _ => false
def rpBs (K : Fg) : List Value → List D → Bool
  | [], [] => true
  | u :: us, d :: ds => rpB K u d && rpBs K us ds
  | _, _ => false
end
mutual
theorem rpB_ok {K : Fg} : ∀ {d : D} {u : Value}, rpB K u d = true → ∃ v, RelV v u ∧ ∀ G, Rp K G v d
  | .none, u, h => by
    unfold rpB at h
    split at h
    · exact ⟨.non, rfl, fun _ => .non⟩
    · cases h
  | .bool b, u, h => by
    unfold rpB at h
    split at h
    · rename_i c
      have e : b = c := eq_of_beq h
      subst e
      exact ⟨.bl b, rfl, fun _ => .bl b⟩
    · cases h
  | .int i, u, h => by
    unfold rpB at h
    split at h
    · rename_i j t
      have e : i = j := of_decide_eq_true h
      subst e
      exact ⟨.int i, ⟨t, rfl⟩, fun _ => .int i⟩
    · cases h
  | .str x, u, h => by
    unfold rpB at h
    split at h
    · rename_i y t
      have e : x = y := of_decide_eq_true h
      subst e
      exact ⟨.str x, ⟨t, rfl⟩, fun _ => .str x⟩
    · cases h
  | .tuple ds, u, h => by
    unfold rpB at h
    split at h
    · rename_i a
      split at h
      · rename_i c od its n sl q
        obtain ⟨h1, h2⟩ := an h
        obtain ⟨h2, h3⟩ := an h2
        obtain ⟨vs, r1, r2⟩ := rpBs_ok h3
        have ec : c = "tuple" := of_decide_eq_true h1
        subst ec
        exact ⟨.ref a, rfl, fun G => .tup (.inr ⟨_, its, n, q, rfl, rfl, of_decide_eq_true h2, r1⟩) (r2 G)⟩
      · cases h
    · cases h
  | .list ds, u, h => by unfold rpB at h; cases h
  | .dict ds, u, h => by unfold rpB at h; cases h
theorem rpBs_ok {K : Fg} : ∀ {ds : List D} {us : List Value}, rpBs K us ds = true → ∃ vs, Vals vs us ∧ ∀ G, RpAll K G vs ds
  | [], [], h => ⟨[], .nil, fun _ => .nil⟩
  | [], _ :: _, h => by unfold rpBs at h; cases h
  | _ :: _, [], h => by unfold rpBs at h; cases h
  | d :: ds, u :: us, h => by
    unfold rpBs at h
    obtain ⟨h1, h2⟩ := an h
    obtain ⟨v, r1, r2⟩ := rpB_ok h1
    obtain ⟨vs, r3, r4⟩ := rpBs_ok h2
    exact ⟨v :: vs, .cons r1 r3, fun G => .cons (r2 G) (r4 G)⟩
end
def glB (K : Fg) (gl : List (Str × D)) : Bool := gl.all fun p => match PySem.W.nsIn K mainGlobals p.1 with
  | some (some u) => rpB K u p.2
  | _ => false
/-! ### the hook -/
def dfD (d : Df) : He.DefD := ⟨(d.name, none), d.name, d.name, defArgs d.st, defBody d.st, defScope d.st, [], []⟩
def faOf (ds : List Df) (free : List Str) : List He.Fa := ds.map (fun d => He.Fa.glo d.name) ++ free.map He.Fa.free
abbrev AlM : Type := Bool × He.AlD
def hookM (n : Nat) (ds : List Df) (free : List Str) (gl : List (Str × D)) : PySem.W.Hook where
  α := AlM
  obs := fun s => (glB (He.frG s.heap.get? (He.asD s.heap.get? n)) gl, He.obsD (faOf ds free) (ds.map dfD) (He.frG s.heap.get? (He.asD s.heap.get? n)))
  val := fun _ => (true, He.valD (ds.map dfD))
  says := fun _ h => ∃ K : PySem.W.Frag, K.In h ∧ glB K gl = true ∧ He.SaysD (faOf ds free) (ds.map dfD) K
  of := fun _ _ e => ⟨_, He.frG_in, congrArg (fun z : AlM => z.1) e, congrArg (fun z : AlM => z.2) e⟩
  keeps := fun _ _ _ ⟨K, hK, g, c⟩ k => ⟨K, PySem.W.Frag.In.keeps hK k, g, c⟩
def obM (n : Nat) (ds : List Df) (free : List Str) (gl : List (Str × D)) (s : PySem.W.SharedT) : AlM :=
  (glB (He.frG (HandSHeadRun.getT s) (He.asD (HandSHeadRun.getT s) n)) gl, He.obsD (faOf ds free) (ds.map dfD) (He.frG (HandSHeadRun.getT s) (He.asD (HandSHeadRun.getT s) n)))
theorem obM_eq {n : Nat} {ds : List Df} {free : List Str} {gl : List (Str × D)} (s : PySem.W.SharedT) : obM n ds free gl s = (hookM n ds free gl).obs s.abs := by
  have e : HandSHeadRun.getT s = s.abs.heap.get? := funext (HandSHeadRun.getT_eq s)
  unfold obM hookM
  rw [e]
/-- the facts of the head -/
theorem made_of {P : Program} {w : World} {K : Fg} {h : Heap} {mg : Str → Option Value} {base : Heap} {ds : List Df} {free : List Str} {gl : List (Str × D)} (X : K.In h) (G : h.Ns mainGlobals mg) (hg : glB K gl = true) (c : He.SaysD (faOf ds free) (ds.map dfD) K)
    (ok : (ds.all fun d => okFn (statOf ds free gl) d) = true) : Made (statOf ds free gl) ⟨P, w, K, mg, base⟩ ds where
  st := ⟨free, gl, rfl⟩
  ok := fun d hd => List.all_eq_true.mp ok d hd
  free := fun x hx => by
    have hm : x ∈ free := List.contains_iff_mem.mp hx
    obtain ⟨i, hi, e⟩ := List.getElem_of_mem hm
    have e2 : (faOf ds free)[(ds.map (fun d => He.Fa.glo d.name)).length + i]? = some (.free x) := by
      unfold faOf
      rw [List.getElem?_append_right (by omega), Nat.add_sub_cancel_left, List.getElem?_map, List.getElem?_eq_getElem hi, e]
      rfl
    exact He.free_ok X G (c.fact _ e2)
  gl := fun p hp => by
    have q := List.all_eq_true.mp hg p hp
    split at q
    · rename_i u e
      obtain ⟨v, r1, r2⟩ := rpB_ok q
      exact ⟨u, v, PySem.W.mg_of X G e, r1, r2⟩
    · cases q
  fn := fun d hd => by
    obtain ⟨i, hi, e⟩ := List.getElem_of_mem hd
    have e1 : (ds.map dfD)[i]? = some (dfD d) := by rw [List.getElem?_map, List.getElem?_eq_getElem hi, e]; rfl
    obtain ⟨fd, F⟩ := c.def_ i e1
    have e2 : (faOf ds free)[i]? = some (.glo d.name) := by
      unfold faOf
      rw [List.getElem?_append_left (by simpa using hi), List.getElem?_map, List.getElem?_eq_getElem hi, e]
      rfl
    exact ⟨_, fd, He.glo_ok X G (c.fact i e2), F⟩
/-! ### the law -/
theorem law_walk {l : PySem.W.OpenLaw} {q : Program} {loose : List Str} {dr : DefRec} {ds : List Df} {free : List Str} {gl : List (Str × D)} {nn k li : Nat} {ld : Df} {x : Str}
    (hn : l.most = some 63) (hdf : dr.params.defaults = []) (hr : Room k callerA) (hname : dr.name = ld.name)
    (hli : ds[li]? = some ld) (hx : ld.ps = [x]) (ok : (ds.all fun d => okFn (statOf ds free gl) d) = true)
    (main : ∀ ns : List Int, ns.length ≤ 63 → wCall (statOf ds free gl).fns k li [.scr ns] fun r _ => r = .val (.bool true)) :
    PySem.W.WalkO q loose (PySem.W.XL q []) (hookM nn ds free gl).says l.row.toRowW dr [] (fun f vs => PySem.call f vs) := by
  refine L2.walk_ofE (n := 63) (k := k) (x := x) (CX := CX0) hn (by decide) hdf hr ?_ (fun _ _ _ _ z => z)
  intro w mg fa h Y G hmg0
  obtain ⟨K, KX, hg, c⟩ := Y
  rw [hname] at hmg0
  have m0 : ∀ base : Heap, Made (statOf ds free gl) ⟨l.prog, w, K, mg, base⟩ ds := fun base => made_of KX G hg c ok
  have hc : (statOf ds free gl).fns[li]? = some ld.code := by
    show (ds.map (·.code))[li]? = _
    rw [List.getElem?_map, hli]; rfl
  have dm : ld ∈ ds := List.mem_of_getElem? hli
  obtain ⟨i, hi, e⟩ := List.getElem_of_mem dm
  have e1 : (ds.map dfD)[i]? = some (dfD ld) := by rw [List.getElem?_map, List.getElem?_eq_getElem hi, e]; rfl
  obtain ⟨fd, F⟩ := c.def_ i e1
  obtain ⟨sc, hp, hnl, hnp, hm, hloc⟩ := okFn_scope (List.all_eq_true.mp ok ld dm)
  have e2 : (faOf ds free)[i]? = some (.glo ld.name) := by
    unfold faOf
    rw [List.getElem?_append_left (by simpa using hi), List.getElem?_map, List.getElem?_eq_getElem hi, e]
    rfl
  have hga := He.glo_ok KX G (c.fact i e2)
  rw [hga] at hmg0
  cases hmg0
  have b := FunD.bindsA (ps := ld.ps) F (bind_of hp)
  refine ⟨K, fd, spF K ld.code.np (wCall (statOf ds free gl).fns k li), KX, fun s u => ?_, fun H a ns hl ho hS => ?_, fun base hb hbn => ?_⟩
  · have := b s [u] (by rw [hx]; rfl)
    rw [hx] at this
    exact this
  · refine ⟨by rw [hnp, hx]; rfl, fun _ => none, fun _ => none, H, [.scr ns], _, ⟨Same.refl H, (fun _ _ e => nomatch e), fun _ _ _ => rfl, rfl, fun j d e => ?_, fun j d e => ?_, fun j m d e => ?_, fun j j' m n d d' a' e => ?_⟩, main ns hl, fun r os v H' G' p _ _ rr => ?_⟩
    · cases j <;> simp at e
    · cases j with
      | zero => simp at e; subst e; exact ⟨a, rfl, hS⟩
      | succ j => simp at e
    · cases j <;> simp at e
    · cases j <;> simp at e
    · subst p
      cases rr
      rfl
  · have := (m0 base).fnOk k li ld _ fd hli F
    rw [hx] at this
    exact this
end DL

set_option Elab.async false
set_option linter.all false
set_option maxRecDepth 100000
set_option maxHeartbeats 0
namespace K03
open PySem PySem.Spec PyProof.Rows L2 DL
def top (i : Nat) : Stmt := PySem.Challenge.pw_formsalike_k03_whole_factors_and_divisor.main.body.getD i (.Pass ⟨0, 0, 0, 0⟩)
def d__law_cup : Df := ⟨"_law_cup", top 24, ["script", "cell"], ["script"], ⟨2, [false], (.cons (.asg (.n 1) (.bi1 .abs (.ix (.bin .add (.bi1 .list (.v 0)) (.lst (.cons (.c (.int (0))) .nil))) (.c (.int (0)))))) (.cons (.ret (.lst (.cons (.ite (.cmp .ge (.v 1) (.bin .pow (.c (.int (10))) (.c (.int (18))))) (.bin .fdiv (.v 1) (.c (.int (73)))) (.c (.int (0)))) (.cons (.bin .add (.bin .mod (.bi1 .int (.bin .add (.bin .mul (.v 1) (.c (.int (283)))) (.c (.int (3907))))) (.c (.int (2077503167)))) (.c (.int (167)))) .nil)))) .nil))⟩⟩
def d__law_roll : Df := ⟨"_law_roll", top 25, ["cup", "many", "found", "deep"], ["cup", "many"], ⟨4, [true, false], (.cons (.ite (.cmp .gt (.ix (.v 0) (.c (.int (0)))) (.c (.int (0)))) (.cons (.asg (.n 2) (.bin .mod (.bi1 .int (.ix (.v 0) (.c (.int (0))))) (.v 1))) (.cons (.set 0 (.c (.int (0))) (.bin .fdiv (.ix (.v 0) (.c (.int (0)))) (.v 1))) (.cons (.ret (.v 2)) .nil))) .nil) (.cons (.set 0 (.c (.int (1))) (.bin .mod (.bi1 .int (.bin .add (.bin .mul (.ix (.v 0) (.c (.int (1)))) (.c (.int (31051)))) (.c (.int (7993))))) (.c (.int (2147483543))))) (.cons (.asg (.n 3) (.bin .mod (.bi1 .int (.bin .mul (.ix (.v 0) (.c (.int (1)))) (.bin .add (.ix (.v 0) (.c (.int (1)))) (.c (.int (229)))))) (.c (.int (2147483587))))) (.cons (.ret (.bin .mod (.bi1 .int (.bin .fdiv (.v 3) (.c (.int (821))))) (.v 1))) .nil))))⟩⟩
def d_is_integer : Df := ⟨"is_integer", top 4, ["value"], ["value"], ⟨1, [false], (.cons (.ret (.and (.isi (.v 0) .int) (.not (.isi (.v 0) .bool)))) .nil)⟩⟩
def d_is_whole : Df := ⟨"is_whole", top 5, ["value", "low", "high"], ["value", "low", "high"], ⟨3, [false, false, false], (.cons (.ret (.and (.call 2 (.cons (.v 0) .nil)) (.chain .le .le (.v 1) (.v 0) (.v 2)))) .nil)⟩⟩
def d_fits_number : Df := ⟨"fits_number", top 8, ["value"], ["value"], ⟨1, [false], (.cons (.ret (.call 3 (.cons (.v 0) (.cons (.c (.int (1))) (.cons (.g "MOST" (.int (10000000000))) .nil))))) .nil)⟩⟩
def d_need_number : Df := ⟨"need_number", top 9, ["number"], ["number"], ⟨1, [false], (.cons (.ite (.not (.call 4 (.cons (.v 0) .nil))) (.cons .stop .nil) .nil) .nil)⟩⟩
def d_factors_in : Df := ⟨"factors_in", top 10, ["number", "found", "trial", "power"], ["number"], ⟨4, [false], (.cons (.par [1, 2] (.cons (.lst .nil) (.cons (.c (.int (2))) .nil))) (.cons (.whl (.cmp .le (.bin .mul (.v 2) (.v 2)) (.v 0)) (.cons (.asg (.n 3) (.c (.int (0)))) (.cons (.whl (.cmp .eq (.bin .mod (.v 0) (.v 2)) (.c (.int (0)))) (.cons (.par [0, 3] (.cons (.bin .fdiv (.v 0) (.v 2)) (.cons (.bin .add (.v 3) (.c (.int (1)))) .nil))) .nil)) (.cons (.ite (.cmp .gt (.v 3) (.c (.int (0)))) (.cons (.app 1 (.tup (.cons (.v 2) (.cons (.v 3) .nil)))) .nil) .nil) (.cons (.asg (.n 2) (.bin .add (.v 2) (.ite (.cmp .eq (.v 2) (.c (.int (2)))) (.c (.int (1))) (.c (.int (2)))))) .nil))))) (.cons (.ret (.bin .add (.v 1) (.ite (.cmp .gt (.v 0) (.c (.int (1)))) (.lst (.cons (.tup (.cons (.v 0) (.cons (.c (.int (1))) .nil))) .nil)) (.lst .nil)))) .nil)))⟩⟩
def d_is_prime_in : Df := ⟨"is_prime_in", top 11, ["number"], ["number"], ⟨1, [false], (.cons (.ret (.and (.cmp .gt (.v 0) (.c (.int (1)))) (.cmp .eq (.call 6 (.cons (.v 0) .nil)) (.lst (.cons (.tup (.cons (.v 0) (.cons (.c (.int (1))) .nil))) .nil))))) .nil)⟩⟩
def d_is_prime_number : Df := ⟨"is_prime_number", top 15, ["number"], ["number"], ⟨1, [false], (.cons (.ex (.call 5 (.cons (.v 0) .nil))) (.cons (.ret (.call 7 (.cons (.v 0) .nil))) .nil))⟩⟩
def d_divisors_in : Df := ⟨"divisors_in", top 12, ["number", "found", "prime", "power", "more", "times", "turn", "one"], ["number"], ⟨8, [false], (.cons (.asg (.n 1) (.lst (.cons (.c (.int (1))) .nil))) (.cons (.for (.t [(.n 2), (.n 3)]) (.e (.call 6 (.cons (.v 0) .nil))) (.cons (.par [4, 5] (.cons (.v 1) (.cons (.c (.int (1))) .nil))) (.cons (.for (.n 6) (.rng1 (.v 3)) (.cons (.asg (.n 5) (.bin .mul (.v 5) (.v 2))) (.cons (.asg (.n 4) (.bin .add (.v 4) (.lc (.bin .mul (.v 7) (.v 5)) (.n 7) (.e (.v 1)) .non [7]))) .nil))) (.cons (.asg (.n 1) (.v 4)) .nil)))) (.cons (.ret (.bi1 .sorted (.v 1))) .nil)))⟩⟩
def d_divisors_of : Df := ⟨"divisors_of", top 17, ["number"], ["number"], ⟨1, [false], (.cons (.ex (.call 5 (.cons (.v 0) .nil))) (.cons (.ret (.bi1 .tuple (.call 9 (.cons (.v 0) .nil)))) .nil))⟩⟩
def d_count_divisors : Df := ⟨"count_divisors", top 18, ["number", "found", "prime", "power"], ["number"], ⟨4, [false], (.cons (.ex (.call 5 (.cons (.v 0) .nil))) (.cons (.asg (.n 1) (.c (.int (1)))) (.cons (.for (.t [(.n 2), (.n 3)]) (.e (.call 6 (.cons (.v 0) .nil))) (.cons (.asg (.n 1) (.bin .mul (.v 1) (.bin .add (.v 3) (.c (.int (1)))))) .nil)) (.cons (.ret (.v 1)) .nil))))⟩⟩
def d_sum_of_divisors : Df := ⟨"sum_of_divisors", top 19, ["number"], ["number"], ⟨1, [false], (.cons (.ex (.call 5 (.cons (.v 0) .nil))) (.cons (.ret (.bi1 .sum (.call 9 (.cons (.v 0) .nil)))) .nil))⟩⟩
def d_totient_in : Df := ⟨"totient_in", top 13, ["number", "found", "prime", "power"], ["number"], ⟨4, [false], (.cons (.asg (.n 1) (.v 0)) (.cons (.for (.t [(.n 2), (.n 3)]) (.e (.call 6 (.cons (.v 0) .nil))) (.cons (.asg (.n 1) (.bin .mul (.bin .fdiv (.v 1) (.v 2)) (.bin .sub (.v 2) (.c (.int (1)))))) .nil)) (.cons (.ret (.v 1)) .nil)))⟩⟩
def d_totient_of : Df := ⟨"totient_of", top 20, ["number"], ["number"], ⟨1, [false], (.cons (.ex (.call 5 (.cons (.v 0) .nil))) (.cons (.ret (.call 13 (.cons (.v 0) .nil))) .nil))⟩⟩
def d_split_in : Df := ⟨"split_in", top 14, ["number", "root", "rest", "prime", "power", "turn"], ["number"], ⟨6, [false], (.cons (.par [1, 2] (.cons (.c (.int (1))) (.cons (.c (.int (1))) .nil))) (.cons (.for (.t [(.n 3), (.n 4)]) (.e (.call 6 (.cons (.v 0) .nil))) (.cons (.for (.n 5) (.rng1 (.bin .fdiv (.v 4) (.c (.int (2))))) (.cons (.asg (.n 1) (.bin .mul (.v 1) (.v 3))) .nil)) (.cons (.asg (.n 2) (.ite (.cmp .eq (.bin .mod (.v 4) (.c (.int (2)))) (.c (.int (1)))) (.bin .mul (.v 2) (.v 3)) (.v 2))) .nil))) (.cons (.ret (.tup (.cons (.v 1) (.cons (.v 2) .nil)))) .nil)))⟩⟩
def d_split_square : Df := ⟨"split_square", top 22, ["number"], ["number"], ⟨1, [false], (.cons (.ex (.call 5 (.cons (.v 0) .nil))) (.cons (.ret (.call 15 (.cons (.v 0) .nil))) .nil))⟩⟩
def d__law_sort : Df := ⟨"_law_sort", top 27, ["value"], ["value"], ⟨1, [false], (.cons (.ite (.or (.isc false (.v 0) (.none)) (.isi (.v 0) .bool)) (.cons (.ret (.ite (.isc false (.v 0) (.none)) (.c (.int (0))) (.c (.int (1))))) .nil) .nil) (.cons (.ite (.or (.isi (.v 0) .int) (.isi (.v 0) .str)) (.cons (.ret (.ite (.isi (.v 0) .int) (.c (.int (2))) (.c (.int (3))))) .nil) .nil) (.cons (.ret (.ite (.isi (.v 0) .tuple) (.c (.int (4))) (.ite (.isi (.v 0) .list) (.c (.int (5))) (.c (.int (6)))))) .nil)))⟩⟩
def d__law_like : Df := ⟨"_law_like", top 28, ["one", "other", "sort", "first", "second"], ["one", "other"], ⟨5, [false, false], (.cons (.asg (.n 2) (.call 17 (.cons (.v 1) .nil))) (.cons (.ite (.or (.cmp .ne (.call 17 (.cons (.v 0) .nil)) (.v 2)) (.cmp .eq (.v 2) (.c (.int (6))))) (.cons (.ret (.c (.bool false))) .nil) .nil) (.cons (.ite (.cmp .inn (.v 2) (.tup (.cons (.c (.int (4))) (.cons (.c (.int (5))) .nil)))) (.cons (.ret (.and (.cmp .eq (.bi1 .len (.v 0)) (.bi1 .len (.v 1))) (.cmp .eq (.lc (.c (.int (1))) (.t [(.n 3), (.n 4)]) (.zip (.v 0) (.v 1)) (.som (.not (.call 18 (.cons (.v 3) (.cons (.v 4) .nil))))) [3, 4]) (.lst .nil)))) .nil) .nil) (.cons (.ret (.cmp .eq (.v 0) (.v 1))) .nil))))⟩⟩
def d__law_divisor : Df := ⟨"_law_divisor", top 29, ["one", "other"], ["one", "other"], ⟨2, [false, false], (.cons (.par [0, 1] (.cons (.bi1 .abs (.v 0)) (.cons (.bi1 .abs (.v 1)) .nil))) (.cons (.whl (.cmp .ne (.v 1) (.c (.int (0)))) (.cons (.par [0, 1] (.cons (.v 1) (.cons (.bin .mod (.bi1 .int (.v 0)) (.v 1)) .nil))) .nil)) (.cons (.ret (.v 0)) .nil)))⟩⟩
def d_moebius_of : Df := ⟨"moebius_of", top 21, ["number", "factors", "prime", "power"], ["number"], ⟨4, [false], (.cons (.ex (.call 5 (.cons (.v 0) .nil))) (.cons (.asg (.n 1) (.call 6 (.cons (.v 0) .nil))) (.cons (.ite (.bi1 .any (.lc (.cmp .gt (.v 3) (.c (.int (1)))) (.t [(.n 2), (.n 3)]) (.e (.v 1)) .non [2, 3])) (.cons (.ret (.c (.int (0)))) .nil) .nil) (.cons (.ret (.ite (.cmp .eq (.bin .mod (.bi1 .len (.v 1)) (.c (.int (2)))) (.c (.int (0)))) (.c (.int (1))) (.neg (.c (.int (1)))))) .nil))))⟩⟩
def d__law_small_right : Df := ⟨"_law_small_right", top 33, ["cup", "number", "divisors", "totient", "roots", "told", "due", "one", "root"], ["cup"], ⟨9, [true], (.cons (.asg (.n 1) (.bin .add (.c (.int (1))) (.call 1 (.cons (.v 0) (.cons (.c (.int (400))) .nil))))) (.cons (.asg (.n 2) (.lc (.v 7) (.n 7) (.rng2 (.c (.int (1))) (.bin .add (.v 1) (.c (.int (1))))) (.som (.cmp .eq (.bin .mod (.bi1 .int (.v 1)) (.v 7)) (.c (.int (0))))) [7])) (.cons (.asg (.n 3) (.bi1 .len (.lc (.v 7) (.n 7) (.rng1 (.v 1)) (.som (.cmp .eq (.call 19 (.cons (.v 7) (.cons (.v 1) .nil))) (.c (.int (1))))) [7]))) (.cons (.asg (.n 4) (.lc (.v 8) (.n 8) (.rng2 (.c (.int (1))) (.c (.int (21)))) (.som (.cmp .eq (.bin .mod (.bi1 .int (.v 1)) (.bin .mul (.v 8) (.v 8))) (.c (.int (0))))) [8])) (.cons (.asg (.n 5) (.lst (.cons (.call 8 (.cons (.v 1) .nil)) (.cons (.call 10 (.cons (.v 1) .nil)) (.cons (.call 11 (.cons (.v 1) .nil)) (.cons (.call 12 (.cons (.v 1) .nil)) (.cons (.call 14 (.cons (.v 1) .nil)) (.cons (.call 16 (.cons (.v 1) .nil)) .nil)))))))) (.cons (.asg (.n 6) (.lst (.cons (.cmp .eq (.bi1 .len (.v 2)) (.c (.int (2)))) (.cons (.bi1 .tuple (.v 2)) (.cons (.bi1 .len (.v 2)) (.cons (.bi1 .sum (.v 2)) (.cons (.v 3) (.cons (.tup (.cons (.ix (.v 4) (.neg (.c (.int (1))))) (.cons (.bi1 .int (.bin .fdiv (.v 1) (.bin .mul (.ix (.v 4) (.neg (.c (.int (1))))) (.ix (.v 4) (.neg (.c (.int (1)))))))) .nil))) .nil)))))))) (.cons (.ite (.not (.call 18 (.cons (.v 5) (.cons (.v 6) .nil)))) (.cons (.ret (.c (.bool false))) .nil) .nil) (.cons (.ret (.and (.cmp .eq (.bi1 .sum (.lc (.call 14 (.cons (.v 7) .nil)) (.n 7) (.e (.v 2)) .non [7])) (.v 1)) (.cmp .eq (.bi1 .sum (.lc (.call 20 (.cons (.v 7) .nil)) (.n 7) (.e (.v 2)) .non [7])) (.ite (.cmp .eq (.v 1) (.c (.int (1)))) (.c (.int (1))) (.c (.int (0))))))) .nil))))))))⟩⟩
def d_factors_of : Df := ⟨"factors_of", top 16, ["number"], ["number"], ⟨1, [false], (.cons (.ex (.call 5 (.cons (.v 0) .nil))) (.cons (.ret (.bi1 .tuple (.call 6 (.cons (.v 0) .nil)))) .nil))⟩⟩
def d__law_factors : Df := ⟨"_law_factors", top 31, ["number", "found", "trial", "power"], ["number"], ⟨4, [false], (.cons (.par [1, 2] (.cons (.lst .nil) (.cons (.c (.int (2))) .nil))) (.cons (.whl (.cmp .le (.bin .mul (.v 2) (.v 2)) (.v 0)) (.cons (.asg (.n 3) (.c (.int (0)))) (.cons (.whl (.cmp .eq (.bin .mod (.bi1 .int (.v 0)) (.v 2)) (.c (.int (0)))) (.cons (.par [0, 3] (.cons (.bi1 .int (.bin .fdiv (.v 0) (.v 2))) (.cons (.bin .add (.v 3) (.c (.int (1)))) .nil))) .nil)) (.cons (.ite (.cmp .gt (.v 3) (.c (.int (0)))) (.cons (.app 1 (.tup (.cons (.v 2) (.cons (.v 3) .nil)))) .nil) .nil) (.cons (.asg (.n 2) (.bin .add (.bin .add (.v 2) (.c (.int (1)))) (.bin .mod (.bi1 .int (.v 2)) (.c (.int (2)))))) .nil))))) (.cons (.ret (.bin .add (.v 1) (.ite (.cmp .gt (.v 0) (.c (.int (1)))) (.lst (.cons (.tup (.cons (.v 0) (.cons (.c (.int (1))) .nil))) .nil)) (.lst .nil)))) .nil)))⟩⟩
def d__law_right : Df := ⟨"_law_right", top 32, ["number", "factors", "told", "divisors", "many", "total", "totient", "sign", "root", "prime", "power", "powers", "turn", "more", "times", "one"], ["number"], ⟨16, [false], (.cons (.asg (.n 1) (.call 23 (.cons (.v 0) .nil))) (.cons (.asg (.n 2) (.lst (.cons (.call 22 (.cons (.v 0) .nil)) (.cons (.call 8 (.cons (.v 0) .nil)) .nil)))) (.cons (.ite (.not (.call 18 (.cons (.v 2) (.cons (.lst (.cons (.bi1 .tuple (.v 1)) (.cons (.cmp .eq (.v 1) (.lst (.cons (.tup (.cons (.v 0) (.cons (.c (.int (1))) .nil))) .nil))) .nil))) .nil)))) (.cons (.ret (.c (.bool false))) .nil) .nil) (.cons (.par [3, 4, 5, 6, 7, 8] (.cons (.lst (.cons (.c (.int (1))) .nil)) (.cons (.c (.int (1))) (.cons (.c (.int (1))) (.cons (.c (.int (1))) (.cons (.c (.int (1))) (.cons (.c (.int (1))) .nil))))))) (.cons (.for (.t [(.n 9), (.n 10)]) (.e (.v 1)) (.cons (.asg (.n 11) (.lst (.cons (.c (.int (1))) .nil))) (.cons (.for (.n 12) (.rng1 (.v 10)) (.cons (.app 11 (.bin .mul (.ix (.v 11) (.neg (.c (.int (1))))) (.v 9))) .nil)) (.cons (.asg (.n 13) (.lst .nil)) (.cons (.for (.n 14) (.e (.v 11)) (.cons (.asg (.n 13) (.bin .add (.v 13) (.lc (.bin .mul (.v 15) (.v 14)) (.n 15) (.e (.v 3)) .non [15]))) .nil)) (.cons (.par [3, 4, 5] (.cons (.v 13) (.cons (.bin .mul (.v 4) (.bin .add (.v 10) (.c (.int (1))))) (.cons (.bin .mul (.v 5) (.bi1 .sum (.v 11))) .nil)))) (.cons (.par [6, 7, 8] (.cons (.bin .mul (.v 6) (.bin .sub (.ix (.v 11) (.neg (.c (.int (1))))) (.ix (.v 11) (.neg (.c (.int (2))))))) (.cons (.ite (.cmp .gt (.v 10) (.c (.int (1)))) (.c (.int (0))) (.bin .sub (.c (.int (0))) (.v 7))) (.cons (.bin .mul (.v 8) (.ix (.v 11) (.bi1 .int (.bin .fdiv (.v 10) (.c (.int (2))))))) .nil)))) .nil))))))) (.cons (.asg (.n 2) (.lst (.cons (.call 10 (.cons (.v 0) .nil)) (.cons (.call 11 (.cons (.v 0) .nil)) (.cons (.call 12 (.cons (.v 0) .nil)) (.cons (.call 14 (.cons (.v 0) .nil)) (.cons (.call 20 (.cons (.v 0) .nil)) (.cons (.call 16 (.cons (.v 0) .nil)) .nil)))))))) (.cons (.ret (.call 18 (.cons (.v 2) (.cons (.lst (.cons (.bi1 .tuple (.bi1 .sorted (.v 3))) (.cons (.v 4) (.cons (.v 5) (.cons (.v 6) (.cons (.v 7) (.cons (.tup (.cons (.v 8) (.cons (.bi1 .int (.bin .fdiv (.v 0) (.bin .mul (.v 8) (.v 8)))) .nil))) .nil))))))) .nil)))) .nil)))))))⟩⟩
def d__law_written : Df := ⟨"_law_written", top 35, ["cup", "told", "power", "ten", "way", "number"], ["cup"], ⟨6, [true], (.cons (.asg (.n 1) (.lst (.cons (.call 8 (.cons (.c (.int (1))) .nil)) (.cons (.call 22 (.cons (.c (.int (360))) .nil)) (.cons (.call 22 (.cons (.c (.int (1))) .nil)) (.cons (.call 10 (.cons (.c (.int (12))) .nil)) (.cons (.call 11 (.cons (.c (.int (360))) .nil)) (.cons (.call 12 (.cons (.c (.int (360))) .nil)) (.cons (.call 14 (.cons (.c (.int (360))) .nil)) .nil))))))))) (.cons (.ite (.not (.call 18 (.cons (.v 1) (.cons (.lst (.cons (.c (.bool false)) (.cons (.tup (.cons (.tup (.cons (.c (.int (2))) (.cons (.c (.int (3))) .nil))) (.cons (.tup (.cons (.c (.int (3))) (.cons (.c (.int (2))) .nil))) (.cons (.tup (.cons (.c (.int (5))) (.cons (.c (.int (1))) .nil))) .nil)))) (.cons (.tup .nil) (.cons (.tup (.cons (.c (.int (1))) (.cons (.c (.int (2))) (.cons (.c (.int (3))) (.cons (.c (.int (4))) (.cons (.c (.int (6))) (.cons (.c (.int (12))) .nil))))))) (.cons (.c (.int (24))) (.cons (.c (.int (1170))) (.cons (.c (.int (96))) .nil)))))))) .nil)))) (.cons (.ret (.c (.bool false))) .nil) .nil) (.cons (.asg (.n 1) (.lst (.cons (.lc (.call 20 (.cons (.v 5) .nil)) (.n 5) (.e (.tup (.cons (.c (.int (1))) (.cons (.c (.int (2))) (.cons (.c (.int (12))) (.cons (.c (.int (30))) (.cons (.c (.int (210))) .nil))))))) .non [5]) (.cons (.call 16 (.cons (.c (.int (360))) .nil)) (.cons (.call 16 (.cons (.c (.int (49))) .nil)) (.cons (.call 14 (.cons (.c (.int (1))) .nil)) (.cons (.call 10 (.cons (.c (.int (1))) .nil)) .nil))))))) (.cons (.ite (.not (.call 18 (.cons (.v 1) (.cons (.lst (.cons (.lst (.cons (.c (.int (1))) (.cons (.neg (.c (.int (1)))) (.cons (.c (.int (0))) (.cons (.neg (.c (.int (1)))) (.cons (.c (.int (1))) .nil)))))) (.cons (.tup (.cons (.c (.int (6))) (.cons (.c (.int (10))) .nil))) (.cons (.tup (.cons (.c (.int (7))) (.cons (.c (.int (1))) .nil))) (.cons (.c (.int (1))) (.cons (.tup (.cons (.c (.int (1))) .nil)) .nil)))))) .nil)))) (.cons (.ret (.c (.bool false))) .nil) .nil) (.cons (.asg (.n 2) (.call 1 (.cons (.v 0) (.cons (.c (.int (11))) .nil)))) (.cons (.asg (.n 3) (.bin .fdiv (.bin .pow (.c (.int (10))) (.c (.int (10)))) (.ix (.tup (.cons (.c (.int (1))) (.cons (.c (.int (10))) (.cons (.c (.int (100))) (.cons (.c (.int (1000))) (.cons (.bin .pow (.c (.int (10))) (.c (.int (4)))) (.cons (.bin .pow (.c (.int (10))) (.c (.int (5)))) (.cons (.bin .pow (.c (.int (10))) (.c (.int (6)))) (.cons (.bin .pow (.c (.int (10))) (.c (.int (7)))) (.cons (.bin .pow (.c (.int (10))) (.c (.int (8)))) (.cons (.bin .pow (.c (.int (10))) (.c (.int (9)))) (.cons (.bin .pow (.c (.int (10))) (.c (.int (10)))) .nil)))))))))))) (.v 2)))) (.cons (.asg (.n 1) (.lst (.cons (.call 11 (.cons (.v 3) .nil)) (.cons (.call 22 (.cons (.v 3) .nil)) (.cons (.bi1 .len (.call 10 (.cons (.v 3) .nil))) .nil))))) (.cons (.ite (.not (.call 18 (.cons (.v 1) (.cons (.lst (.cons (.bin .mul (.bin .sub (.c (.int (11))) (.v 2)) (.bin .sub (.c (.int (11))) (.v 2))) (.cons (.ite (.cmp .lt (.v 2) (.c (.int (10)))) (.tup (.cons (.tup (.cons (.c (.int (2))) (.cons (.bin .sub (.c (.int (10))) (.v 2)) .nil))) (.cons (.tup (.cons (.c (.int (5))) (.cons (.bin .sub (.c (.int (10))) (.v 2)) .nil))) .nil))) (.tup .nil)) (.cons (.bin .mul (.bin .sub (.c (.int (11))) (.v 2)) (.bin .sub (.c (.int (11))) (.v 2))) .nil)))) .nil)))) (.cons (.ret (.c (.bool false))) .nil) .nil) (.cons (.asg (.n 4) (.call 1 (.cons (.v 0) (.cons (.c (.int (6))) .nil)))) (.cons (.ite (.cmp .eq (.v 4) (.c (.int (0)))) (.cons (.ret (.call 18 (.cons (.lst (.cons (.call 8 (.cons (.c (.int (9999999967))) .nil)) (.cons (.call 22 (.cons (.c (.int (9999999967))) .nil)) (.cons (.call 14 (.cons (.c (.int (9999999967))) .nil)) .nil)))) (.cons (.lst (.cons (.c (.bool true)) (.cons (.tup (.cons (.tup (.cons (.c (.int (9999999967))) (.cons (.c (.int (1))) .nil))) .nil)) (.cons (.c (.int (9999999966))) .nil)))) .nil)))) .nil) .nil) (.cons (.ite (.cmp .eq (.v 4) (.c (.int (1)))) (.cons (.asg (.n 1) (.lst (.cons (.call 22 (.cons (.bin .mul (.c (.int (99991))) (.c (.int (99991)))) .nil)) (.cons (.call 8 (.cons (.bin .mul (.c (.int (99991))) (.c (.int (99991)))) .nil)) (.cons (.call 16 (.cons (.bin .mul (.c (.int (99991))) (.c (.int (99991)))) .nil)) (.cons (.call 22 (.cons (.bin .mul (.c (.int (99989))) (.c (.int (99991)))) .nil)) (.cons (.call 20 (.cons (.bin .mul (.c (.int (99989))) (.c (.int (99991)))) .nil)) .nil))))))) (.cons (.ret (.call 18 (.cons (.v 1) (.cons (.lst (.cons (.tup (.cons (.tup (.cons (.c (.int (99991))) (.cons (.c (.int (2))) .nil))) .nil)) (.cons (.c (.bool false)) (.cons (.tup (.cons (.c (.int (99991))) (.cons (.c (.int (1))) .nil))) (.cons (.tup (.cons (.tup (.cons (.c (.int (99989))) (.cons (.c (.int (1))) .nil))) (.cons (.tup (.cons (.c (.int (99991))) (.cons (.c (.int (1))) .nil))) .nil))) (.cons (.c (.int (1))) .nil)))))) .nil)))) .nil)) .nil) (.cons (.ite (.cmp .eq (.v 4) (.c (.int (2)))) (.cons (.asg (.n 5) (.c (.int (6983776800)))) (.cons (.asg (.n 1) (.lst (.cons (.call 11 (.cons (.v 5) .nil)) (.cons (.call 22 (.cons (.v 5) .nil)) (.cons (.bi1 .len (.call 10 (.cons (.v 5) .nil))) (.cons (.call 16 (.cons (.v 5) .nil)) .nil)))))) (.cons (.ret (.call 18 (.cons (.v 1) (.cons (.lst (.cons (.c (.int (2304))) (.cons (.tup (.cons (.tup (.cons (.c (.int (2))) (.cons (.c (.int (5))) .nil))) (.cons (.tup (.cons (.c (.int (3))) (.cons (.c (.int (3))) .nil))) (.cons (.tup (.cons (.c (.int (5))) (.cons (.c (.int (2))) .nil))) (.cons (.tup (.cons (.c (.int (7))) (.cons (.c (.int (1))) .nil))) (.cons (.tup (.cons (.c (.int (11))) (.cons (.c (.int (1))) .nil))) (.cons (.tup (.cons (.c (.int (13))) (.cons (.c (.int (1))) .nil))) (.cons (.tup (.cons (.c (.int (17))) (.cons (.c (.int (1))) .nil))) (.cons (.tup (.cons (.c (.int (19))) (.cons (.c (.int (1))) .nil))) .nil))))))))) (.cons (.c (.int (2304))) (.cons (.tup (.cons (.c (.int (60))) (.cons (.c (.int (1939938))) .nil))) .nil))))) .nil)))) .nil))) .nil) (.cons (.ret (.or (.cmp .gt (.v 4) (.c (.int (3)))) (.call 24 (.cons (.bin .add (.bin .pow (.c (.int (10))) (.c (.int (9)))) (.call 1 (.cons (.v 0) (.cons (.bin .mul (.c (.int (9))) (.bin .pow (.c (.int (10))) (.c (.int (9))))) .nil)))) .nil)))) .nil)))))))))))))⟩⟩
def d__law_products_right : Df := ⟨"_law_products_right", top 34, ["cup", "one", "other", "both", "told", "due"], ["cup"], ⟨6, [true], (.cons (.par [1, 2] (.cons (.bin .add (.c (.int (1))) (.call 1 (.cons (.v 0) (.cons (.c (.int (1000))) .nil)))) (.cons (.bin .add (.c (.int (1))) (.call 1 (.cons (.v 0) (.cons (.c (.int (1000))) .nil)))) .nil))) (.cons (.ite (.cmp .gt (.call 19 (.cons (.v 1) (.cons (.v 2) .nil))) (.c (.int (1)))) (.cons (.ret (.c (.bool true))) .nil) .nil) (.cons (.asg (.n 3) (.bin .mul (.v 1) (.v 2))) (.cons (.asg (.n 4) (.lst (.cons (.call 11 (.cons (.v 3) .nil)) (.cons (.call 12 (.cons (.v 3) .nil)) (.cons (.call 14 (.cons (.v 3) .nil)) (.cons (.call 20 (.cons (.v 3) .nil)) (.cons (.call 22 (.cons (.v 3) .nil)) .nil))))))) (.cons (.asg (.n 5) (.lst (.cons (.bin .mul (.call 11 (.cons (.v 1) .nil)) (.call 11 (.cons (.v 2) .nil))) (.cons (.bin .mul (.call 12 (.cons (.v 1) .nil)) (.call 12 (.cons (.v 2) .nil))) (.cons (.bin .mul (.call 14 (.cons (.v 1) .nil)) (.call 14 (.cons (.v 2) .nil))) .nil))))) (.cons (.ret (.call 18 (.cons (.v 4) (.cons (.bin .add (.v 5) (.lst (.cons (.bin .mul (.call 20 (.cons (.v 1) .nil)) (.call 20 (.cons (.v 2) .nil))) (.cons (.bi1 .tuple (.bi1 .sorted (.bin .add (.call 22 (.cons (.v 1) .nil)) (.call 22 (.cons (.v 2) .nil))))) .nil)))) .nil)))) .nil))))))⟩⟩
def d__law_some : Df := ⟨"_law_some", top 26, ["cup", "things"], ["cup", "things"], ⟨2, [true, false], (.cons (.ret (.ix (.v 1) (.call 1 (.cons (.v 0) (.cons (.bi1 .len (.v 1)) .nil))))) .nil)⟩⟩
def d__law_number : Df := ⟨"_law_number", top 30, ["cup", "way", "size", "found", "base", "turn", "root"], ["cup"], ⟨7, [true], (.cons (.par [1, 2] (.cons (.call 1 (.cons (.v 0) (.cons (.c (.int (6))) .nil))) (.cons (.call 27 (.cons (.v 0) (.cons (.lst (.cons (.c (.int (20))) (.cons (.c (.int (1000))) (.cons (.bin .pow (.c (.int (10))) (.c (.int (5)))) .nil)))) .nil))) .nil))) (.cons (.ite (.cmp .eq (.v 1) (.c (.int (0)))) (.cons (.ret (.bin .add (.c (.int (1))) (.call 1 (.cons (.v 0) (.cons (.v 2) .nil))))) .nil) .nil) (.cons (.ite (.cmp .eq (.v 1) (.c (.int (1)))) (.cons (.asg (.n 3) (.c (.int (1)))) (.cons (.whl (.cmp .lt (.v 3) (.v 2)) (.cons (.asg (.n 3) (.bin .mul (.v 3) (.call 27 (.cons (.v 0) (.cons (.lst (.cons (.c (.int (2))) (.cons (.c (.int (2))) (.cons (.c (.int (3))) (.cons (.c (.int (3))) (.cons (.c (.int (5))) (.cons (.c (.int (7))) (.cons (.c (.int (11))) (.cons (.c (.int (13))) .nil))))))))) .nil))))) .nil)) (.cons (.ret (.v 3)) .nil))) .nil) (.cons (.ite (.cmp .eq (.v 1) (.c (.int (2)))) (.cons (.par [4, 3] (.cons (.call 27 (.cons (.v 0) (.cons (.lst (.cons (.c (.int (2))) (.cons (.c (.int (3))) (.cons (.c (.int (5))) (.cons (.c (.int (7))) (.cons (.c (.int (97))) (.cons (.c (.int (101))) (.cons (.c (.int (9973))) .nil)))))))) .nil))) (.cons (.c (.int (1))) .nil))) (.cons (.for (.n 5) (.rng1 (.bin .add (.c (.int (1))) (.call 1 (.cons (.v 0) (.cons (.c (.int (4))) .nil))))) (.cons (.asg (.n 3) (.ite (.cmp .le (.bin .mul (.v 3) (.v 4)) (.bin .pow (.c (.int (10))) (.c (.int (10))))) (.bin .mul (.v 3) (.v 4)) (.v 3))) .nil)) (.cons (.ret (.v 3)) .nil))) .nil) (.cons (.ite (.cmp .eq (.v 1) (.c (.int (3)))) (.cons (.ret (.bin .add (.c (.int (1))) (.bin .mul (.call 1 (.cons (.v 0) (.cons (.c (.int (1000))) .nil))) (.bin .add (.c (.int (1))) (.call 1 (.cons (.v 0) (.cons (.c (.int (1000))) .nil))))))) .nil) .nil) (.cons (.asg (.n 6) (.bin .add (.c (.int (1))) (.call 1 (.cons (.v 0) (.cons (.c (.int (1000))) .nil))))) (.cons (.ret (.bin .add (.bin .mul (.v 6) (.v 6)) (.call 1 (.cons (.v 0) (.cons (.c (.int (2))) .nil))))) .nil)))))))⟩⟩
def d_law : Df := ⟨"law", top 36, ["script", "cup", "turn"], ["script"], ⟨3, [false], (.cons (.asg (.n 1) (.call 0 (.cons (.v 0) .nil))) (.cons (.for (.n 2) (.rng1 (.c (.int (5)))) (.cons (.ite (.or (.not (.call 24 (.cons (.call 28 (.cons (.v 1) .nil)) .nil))) (.not (.call 26 (.cons (.v 1) .nil)))) (.cons (.ret (.c (.bool false))) .nil) .nil) .nil)) (.cons (.ret (.and (.call 21 (.cons (.v 1) .nil)) (.call 25 (.cons (.v 1) .nil)))) .nil)))⟩⟩
def ds : List Df := [d__law_cup, d__law_roll, d_is_integer, d_is_whole, d_fits_number, d_need_number, d_factors_in, d_is_prime_in, d_is_prime_number, d_divisors_in, d_divisors_of, d_count_divisors, d_sum_of_divisors, d_totient_in, d_totient_of, d_split_in, d_split_square, d__law_sort, d__law_like, d__law_divisor, d_moebius_of, d__law_small_right, d_factors_of, d__law_factors, d__law_right, d__law_written, d__law_products_right, d__law_some, d__law_number, d_law]
def free : List Str := ["int", "abs", "list", "isinstance", "bool", "sorted", "range", "tuple", "sum", "str", "len", "zip", "any"]
def gl : List (Str × D) := [("MOST", .int (10000000000))]
theorem ok : (ds.all fun d => okFn (statOf ds free gl) d) = true := by decide +kernel
abbrev fns : List Fn := (statOf ds free gl).fns
end K03

set_option Elab.async false
set_option linter.all false
set_option maxRecDepth 100000
set_option maxHeartbeats 0
namespace K03
open PySem PySem.Spec PyProof.Rows L2 DL
abbrev LW : PySem.W.OpenLaw := PySem.Challenge.rw_formsalike_k03_whole_factors_and_divisor
abbrev R : PySem.W.OpenRow := PySem.W.OpenLaw.row LW
abbrev loose : List Str := (["FormError", "InvalidNumber", "is_integer", "is_whole", "MOST", "fits_number", "need_number", "factors_in", "is_prime_in", "divisors_in", "totient_in", "split_in", "is_prime_number", "factors_of", "divisors_of", "count_divisors", "sum_of_divisors", "totient_of", "moebius_of", "split_square", "_law_cup", "_law_roll", "_law_some", "_law_sort", "_law_like", "_law_divisor", "_law_number", "_law_factors", "_law_right", "_law_small_right"] : List Str) ++ (["_law_products_right", "_law_written"] : List Str)
abbrev hk : PySem.W.Hook := hookM 4 ds free gl
theorem run (w : World) : HandSHeadRun.RunEq R (PySem.W.view R.prog [36]) hk (obM 4 ds free gl) 4000 loose w := by
  intro os
  kernel_rfl
end K03
section
open PySem PySem.W PySem.Calls PyProof.Rows
theorem K03.holds (main : ∀ ns : List Int, ns.length ≤ 63 → DL.wCall K03.fns 40 29 [.scr ns] (fun r _ => r = .val (.bool true))) : PySem.Challenge.rw_formsalike_k03_whole_factors_and_divisor.Holds := by
  w_on; o_law
  refine HandSHeadRun.head_any (r := K03.R) (q := view (K03.R).prog [36]) (H := K03.hk) (ob := DL.obM 4 K03.ds K03.free K03.gl) (M := 4000) (loose := K03.loose) (d := HandSHeadRun.topDef (K03.R).prog 36) (kwd := []) DL.obM_eq
    (by kernel_rfl) (fun s => by kernel_rfl) K03.run (by kernel_rfl) (by kernel_rfl) (by kernel_rfl) (by rfl) (by first | assumption | decide +kernel) (by decide +kernel) ⟨rfl, rfl, rfl, rfl, rfl, by decide +kernel⟩ ?hw ?hc
  case hw => w_witness2
  case hc => exact DL.law_walk (l := K03.LW) (ds := K03.ds) (free := K03.free) (gl := K03.gl) (nn := 4) (k := 40) (li := 29) (ld := K03.d_law) (x := "script") rfl (by kernel_rfl) ⟨rfl, by decide, by decide⟩ (by kernel_rfl) rfl rfl K03.ok main
end

set_option Elab.async false
set_option linter.all false
set_option maxRecDepth 100000
set_option maxHeartbeats 4000000
/-! DLp: tools for the plain laws. -/
namespace DL
open PySem PySem.Spec PyProof.Rows L2
theorem enter {fns : List Fn} {k f : Nat} {args : List Sl} {Q : Sl → List Sl → Prop} {c : Fn} (h : fns[f]? = some c) (hf : fits c.refs args)
    (hb : wSs (wCall fns k) (fun f => (fns[f]?.map Fn.refs).getD []) c.body (args ++ List.replicate (c.nl - c.np) .no) { nx := fun env => Q (.val .none) (outs c.refs env), rt := fun r env => Q r (outs c.refs env) }) :
    stp (wCall fns (k + 1) f args Q) := by
  refine stp_of ?_
  show oP fns[f]? _
  rw [h]
  exact ⟨hf, hb⟩
/-- what a body's end owes, told apart from the goal -/
def HR (R : QK) (Q : Sl → List Sl → Prop) (refs : List Bool) : Prop := ∀ r e, Q r (outs refs e) → R r e
@[irreducible] def Rt (R : QK) : QK := R
theorem Rt_go {R : QK} {Q : Sl → List Sl → Prop} {refs : List Bool} {r : Sl} {e o : En} (h : HR R Q refs) (ho : outs refs e = o) (q : Q r o) : Rt R r e := by
  subst ho
  unfold Rt
  exact h r e q
theorem enterR {fns : List Fn} {k f : Nat} {args env : List Sl} {Q : Sl → List Sl → Prop} {nl : Nat} {rs : List Bool} {body : Ss} (h : fns[f]? = some ⟨nl, rs, body⟩) (hf : fits rs args) (he : args ++ List.replicate (nl - rs.length) .no = env)
    (hb : ∀ R : QK, HR R Q rs → wSs (wCall fns k) (fun f => (fns[f]?.map Fn.refs).getD []) body env ⟨fun e => Rt R (.val .none) e, fun r e => Rt R r e, fun _ => False, fun _ => False⟩) :
    stp (wCall fns (k + 1) f args Q) := by
  subst he
  refine enter h hf ?_
  have := hb (fun r e => Q r (outs rs e)) fun _ _ h => h
  unfold Rt at this
  exact this
theorem brI {k : Bool} {a b : Prop} (h1 : k = true → a) (h2 : k = false → b) : brB k a b := by
  unfold brB
  cases k
  · exact h2 rfl
  · exact h1 rfl
theorem brT {k : Bool} {a b : Prop} (h : k = true) (h1 : a) : brB k a b := by subst h; unfold brB; exact h1
theorem brF {k : Bool} {a b : Prop} (h : k = false) (h1 : b) : brB k a b := by subst h; unfold brB; exact h1
/-! ### from one statement to the next -/
theorem ev_nil {e : En} (h : e = []) : e = [] := h
theorem ev_cons {e t t' : En} {x x' : Sl} (h : e = x :: t) (hx : x = x') (ht : t = t') : e = x' :: t' := by subst hx ht; exact h
theorem wS_next {cl : Cl} {refs : Nat → List Bool} {r : Ss} {e e' : En} {K : AK} (h : e = e') (q : wSs cl refs r e' K) : stp (wSs cl refs r e K) := by subst h; exact stp_of q
theorem wS_go {cl : Cl} {refs : Nat → List Bool} {r : Ss} {e e' : En} {K : AK} (h : e = e') (q : wSs cl refs r e' K) : wSs cl refs r e K := by subst h; exact q
/-! ### subscripts -/
theorem dx_list {xs : List D} {i : Int} {d : D} {Q : Sl → Prop} (h : atI xs i = some d) (hQ : Q (.val d)) : stp (wIx (.list xs) (.int i) Q) := by
  refine stp_of ?_
  show oP (atI xs i) _
  rw [h]
  exact hQ
theorem dx_tup {xs : List D} {i : Int} {d : D} {Q : Sl → Prop} (h : atI xs i = some d) (hQ : Q (.val d)) : stp (wIx (.tuple xs) (.int i) Q) := by
  refine stp_of ?_
  show oP (atI xs i) _
  rw [h]
  exact hQ
theorem atI_mem {xs : List D} {i : Int} (h0 : 0 ≤ i) (h1 : i < xs.length) : ∃ d, atI xs i = some d ∧ d ∈ xs := by
  obtain ⟨n, rfl⟩ := Int.eq_ofNat_of_zero_le h0
  have h : n < xs.length := by omega
  refine ⟨xs[n], ?_, List.getElem_mem h⟩
  have e : ixN xs.length (n : Int) = some n := by
    unfold ixN
    simp [h]
  unfold atI
  rw [e]
  simp [h]
theorem atI_zero (d : D) (l : List D) : atI (d :: l) 0 = some d := by
  obtain ⟨e, h, m⟩ := atI_mem (xs := d :: l) (i := 0) (by omega) (by simp)
  have e1 : ixN (l.length + 1) 0 = some 0 := by
    unfold ixN
    simp
  unfold atI
  rw [show (d :: l).length = l.length + 1 from rfl, e1]
  rfl
theorem dx_mem {xs : List D} {i : Int} {Q : Sl → Prop} (h0 : 0 ≤ i) (h1 : i < xs.length) (hQ : ∀ d ∈ xs, Q (.val d)) : stp (wIx (.list xs) (.int i) Q) := by
  obtain ⟨d, e, m⟩ := atI_mem h0 h1
  exact dx_list e (hQ d m)
theorem plN {e : En} : ∀ j ∈ ([] : List Nat), plainSl e[j]? := fun _ h => by cases h
theorem plC {e : En} {i : Nat} {is : List Nat} (h : plainSl e[i]?) (t : ∀ j ∈ is, plainSl e[j]?) : ∀ j ∈ i :: is, plainSl e[j]? := fun j hj => by
  rcases List.mem_cons.mp hj with rfl | hj
  · exact h
  · exact t j hj
theorem flN {e : En} : ∀ j ∈ ([] : List Nat), freeSl e[j]? := fun _ h => by cases h
theorem flC {e : En} {i : Nat} {is : List Nat} (h : freeSl e[i]?) (t : ∀ j ∈ is, freeSl e[j]?) : ∀ j ∈ i :: is, freeSl e[j]? := fun j hj => by
  rcases List.mem_cons.mp hj with rfl | hj
  · exact h
  · exact t j hj
/-! ### loops -/
theorem wFor_run {st : En → Prop} {bd : D → En → (En → Prop) → Prop} {b : En → AK → Prop} {K : AK} (I : List D → En → Prop) (hn : ∀ e, I [] e → st e ∧ K.nx e)
    (hc : ∀ x xs e, I (x :: xs) e → (∀ e', I xs e' → wFor st bd b xs e' K) → wFor st bd b (x :: xs) e K) : ∀ {l : List D} {env : En}, I l env → wFor st bd b l env K
  | [], env, h => hn env h
  | x :: xs, env, h => hc x xs env h fun e' h' => wFor_run I hn hc h'
theorem wComp_run {st : En → Prop} {bd : D → En → (En → Prop) → Prop} {t : En → (Bool → En → Prop) → Prop} {el : En → (D → En → Prop) → Prop} {own : List Nat} {Q : List D → En → Prop} (I : List D → List D → En → Prop) (hn : ∀ acc e, I [] acc e → st e ∧ Q acc e)
    (hc : ∀ x xs acc e, I (x :: xs) acc e → (∀ acc' e', I xs acc' e' → wComp st bd t el own xs acc' e' Q) → wComp st bd t el own (x :: xs) acc e Q) : ∀ {l acc : List D} {env : En}, I l acc env → wComp st bd t el own l acc env Q
  | [], acc, env, h => hn acc env h
  | x :: xs, acc, env, h => hc x xs acc env h fun acc' e' h' => wComp_run I hn hc h'
theorem wLoop_run {t : En → (Bool → En → Prop) → Prop} {b : En → AK → Prop} {K : AK} (I : Nat → En → Prop)
    (hs : ∀ m e, I m e → ∀ n, (∀ m' e', m' < m → I m' e' → wLoop t b n e' K) → wLoop t b (n + 1) e K) {m : Nat} {env : En} (h : I m env) : stp (∃ n, wLoop t b n env K) := by
  refine stp_of ⟨m + 1, ?_⟩
  have all : ∀ n m e, I m e → m < n → wLoop t b n e K := by
    intro n
    induction n with
    | zero => intro m e _ h; omega
    | succ n ih => intro m e h l; exact hs m e h n fun m' e' l' h' => ih m' e' h' (by omega)
  exact all _ _ _ h (by omega)
/-! ### sizes of ints -/
def Bd (n : Nat) (i : Int) : Prop := Builtin.Int.intBits i ≤ n
theorem Bd.add {m n : Nat} {i j : Int} (h : Bd m i) (h' : Bd n j) : Bd (m + n + 1) (i + j) := Nat.le_trans (PySem.intBits_add_le h h') (by omega)
theorem Bd.sub {m n : Nat} {i j : Int} (h : Bd m i) (h' : Bd n j) : Bd (m + n + 1) (i - j) := Nat.le_trans (PySem.intBits_sub_le h h') (by omega)
theorem Bd.mul {m n : Nat} {i j : Int} (h : Bd m i) (h' : Bd n j) : Bd (m + n) (i * j) := PySem.intBits_mul_le h h'
theorem Bd.neg {m : Nat} {i : Int} (h : Bd m i) : Bd m (-i) := PySem.intBits_neg_le h
theorem Bd.fdiv {m : Nat} {i j : Int} (h : Bd m i) : Bd m (i.fdiv j) := PySem.intBits_fdiv_le h
theorem Bd.fmod {n : Nat} {i j : Int} (h0 : j ≠ 0) (h : Bd n j) : Bd n (i.fmod j) := bits_fmod_by h0 h
theorem Bd.abs {m : Nat} {i : Int} (h : Bd m i) : Bd m (if i < 0 then -i else i) := by split; exact h.neg; exact h
theorem Bd.mono {m n : Nat} {i : Int} (h : Bd m i) (l : m ≤ n) : Bd n i := Nat.le_trans h l
theorem Bd.of {n : Nat} {i : Int} (h : i.natAbs < 2 ^ n) : Bd n i := PySem.intBits_le_iff.mpr h
theorem Bd.lt {n : Nat} {i : Int} (h : Bd n i) : i.natAbs < 2 ^ n := PySem.intBits_le_iff.mp h
theorem Bd.lit {i : Int} (h1 : -(2 ^ 64) < i) (h2 : i < 2 ^ 64) : Bd 64 i := .of (by omega)
theorem Bd.lit2 {i : Int} (h1 : -(2 ^ 600) < i) (h2 : i < 2 ^ 600) : Bd 600 i := .of (by omega)
theorem Bd.pow {i : Int} {n m : Nat} (h : Bd m i) : Bd (m * n + 1) (i ^ n) := PySem.intBits_pow_le h n
theorem mulOk {m n : Nat} {i j : Int} (h : Bd m i) (h' : Bd n j) (l : m + n ≤ 134217728) : IntMulOk i j := mulOk_of_bits h h' l
theorem mulL {i j : Int} (h : Bd 64 i) : IntMulOk i j := .of_left h
theorem mulR {i j : Int} (h : Bd 64 j) : IntMulOk i j := .of_right h
theorem divOk {j : Int} (h1 : 0 < j) (h2 : j < 2 ^ 250) : j ≠ 0 ∧ j.natAbs.log2 < 9000 := by
  refine ⟨by omega, ?_⟩
  have : j.natAbs < 2 ^ 250 := by omega
  have h0 : j.natAbs ≠ 0 := by omega
  have := (Nat.log2_lt h0).mpr this
  omega
/-! ### equal data -/
theorem eqv_i (i j : Int) : PyData.eqv (.int i) (.int j) = (i == j) := by unfold PyData.eqv; rfl
theorem eqv_nil : PyData.eqvAll [] [] = true := by unfold PyData.eqvAll; rfl
theorem eqv_cons (x y : D) (xs ys : List D) : PyData.eqvAll (x :: xs) (y :: ys) = (PyData.eqv x y && PyData.eqvAll xs ys) := by rw [PyData.eqvAll]
theorem eqv_t (xs ys : List D) : PyData.eqv (.tuple xs) (.tuple ys) = PyData.eqvAll xs ys := by rw [PyData.eqv]
theorem eqv_l (xs ys : List D) : PyData.eqv (.list xs) (.list ys) = PyData.eqvAll xs ys := by rw [PyData.eqv]
theorem eqv_same {d e : D} (h : d.canLay0 = true) (e' : d = e) : PyData.eqv d e = true := by subst e'; exact SeqAt.eqv_refl d h
/-! ### the law's cup -/
def Cup (s : List D) : Prop := ∃ c0 c1 : Int, s = [.int c0, .int c1] ∧ 0 ≤ c1 ∧ c1 < 2 ^ 32
theorem fmod_b {a b : Int} (h : 0 < b) : 0 ≤ a.fmod b ∧ a.fmod b < b := ⟨Int.fmod_nonneg_of_pos _ h, Int.fmod_lt_of_pos _ h⟩
/-! ### arithmetic -/
theorem abs_nat (a : Int) : (if a < 0 then -a else a) = (a.natAbs : Int) := by split <;> omega
theorem fmod_nat (a b : Nat) : (a : Int).fmod (b : Int) = ((a % b : Nat) : Int) := by
  rw [Int.fmod_eq_emod_of_nonneg _ (by omega)]
  exact (Int.natCast_emod a b).symm
end DL

set_option Elab.async false
set_option linter.all false
set_option maxRecDepth 100000
set_option maxHeartbeats 4000000
set_option exponentiation.threshold 4000
/-! DLq: plain mathematics of forms and changes. -/
namespace DL
open PySem PySem.Spec PyProof.Rows L2
def sortD : D → Int
  | .none => 0
  | .bool _ => 1
  | .int _ => 2
  | .str _ => 3
  | .tuple _ => 4
  | .list _ => 5
  | .dict _ => 6
theorem dep_mem : ∀ {ds : List D} {d : D}, d ∈ ds → PyData.canLayAll0 ds = true → d.canLay0 = true ∧ d.depth ≤ PyData.depthAll ds
  | x :: xs, d, h, hl => by
    unfold PyData.canLayAll0 at hl
    obtain ⟨h1, h2⟩ := an hl
    unfold PyData.depthAll
    rcases List.mem_cons.mp h with rfl | h
    · exact ⟨h1, Nat.le_max_left _ _⟩
    · exact ⟨(dep_mem h h2).1, Nat.le_trans (dep_mem h h2).2 (Nat.le_max_right _ _)⟩
theorem zip_mem : ∀ {ds : List D} {x : D}, x ∈ zipD ds ds → ∃ d ∈ ds, x = .tuple [d, d]
  | y :: ys, x, h => by
    rcases List.mem_cons.mp (show x ∈ PyData.tuple [y, y] :: zipD ys ys from h) with rfl | h
    · exact ⟨y, List.mem_cons_self .., rfl⟩
    · obtain ⟨d, m, e⟩ := zip_mem h
      exact ⟨d, List.mem_cons_of_mem _ m, e⟩
/-- a form that the program takes -/
structure Form (a b c : Int) : Prop where
  a1 : -10 ^ 18 ≤ a
  a2 : a ≤ 10 ^ 18
  b1 : -10 ^ 18 ≤ b
  b2 : b ≤ 10 ^ 18
  c1 : -10 ^ 18 ≤ c
  c2 : c ≤ 10 ^ 18
  ne : ¬(a = 0 ∧ b = 0 ∧ c = 0)
/-- a change that the program takes -/
structure Chg (p q r s : Int) : Prop where
  p1 : -10 ^ 120 < p
  p2 : p < 10 ^ 120
  q1 : -10 ^ 120 < q
  q2 : q < 10 ^ 120
  r1 : -10 ^ 120 < r
  r2 : r < 10 ^ 120
  s1 : -10 ^ 120 < s
  s2 : s < 10 ^ 120
  one : p * s - q * r = 1
theorem Chg.bd {p q r s : Int} (h : Chg p q r s) : Bd 400 p ∧ Bd 400 q ∧ Bd 400 r ∧ Bd 400 s := by
  have e : (10 : Nat) ^ 120 < 2 ^ 400 := by decide
  have := h.p1; have := h.p2; have := h.q1; have := h.q2; have := h.r1; have := h.r2; have := h.s1; have := h.s2
  exact ⟨.of (by omega), .of (by omega), .of (by omega), .of (by omega)⟩
theorem Form.bd {a b c : Int} (h : Form a b c) : Bd 64 a ∧ Bd 64 b ∧ Bd 64 c := by
  have := h.a1; have := h.a2; have := h.b1; have := h.b2; have := h.c1; have := h.c2
  exact ⟨.of (by omega), .of (by omega), .of (by omega)⟩
/-- a change with entries up to B -/
structure Ch (B p q r s : Int) : Prop where
  p1 : -B ≤ p
  p2 : p ≤ B
  q1 : -B ≤ q
  q2 : q ≤ B
  r1 : -B ≤ r
  r2 : r ≤ B
  s1 : -B ≤ s
  s2 : s ≤ B
  one : p * s - q * r = 1
theorem Ch.bd {B p q r s : Int} (h : Ch B p q r s) (hB : B ≤ 2 ^ 80) : Bd 90 p ∧ Bd 90 q ∧ Bd 90 r ∧ Bd 90 s := by
  have := h.p1; have := h.p2; have := h.q1; have := h.q2; have := h.r1; have := h.r2; have := h.s1; have := h.s2
  exact ⟨.of (by omega), .of (by omega), .of (by omega), .of (by omega)⟩
theorem pow4_le (m : Nat) (h : m ≤ 40) : (4 : Int) ^ m ≤ 2 ^ 80 := by
  have : (4 : Int) ^ m ≤ 4 ^ 40 := by
    have := Nat.pow_le_pow_right (n := 4) (by omega) h
    exact_mod_cast this
  have e : (4 : Int) ^ 40 = 2 ^ 80 := by decide
  omega
theorem pow4_pos (m : Nat) : 1 ≤ (4 : Int) ^ m := by
  have := Nat.one_le_two_pow (n := 0)
  have := Nat.pow_pos (n := m) (show 0 < 4 by omega)
  exact_mod_cast this
theorem mul3 {m p B : Int} (m1 : -3 ≤ m) (m2 : m ≤ 3) (p1 : -B ≤ p) (p2 : p ≤ B) : -(3 * B) ≤ m * p ∧ m * p ≤ 3 * B := by
  have : m = -3 ∨ m = -2 ∨ m = -1 ∨ m = 0 ∨ m = 1 ∨ m = 2 ∨ m = 3 := by omega
  rcases this with rfl | rfl | rfl | rfl | rfl | rfl | rfl <;> omega
theorem Ch.shear {B p q r s m : Int} (h : Ch B p q r s) (m1 : -3 ≤ m) (m2 : m ≤ 3) : Ch (4 * B) p (q + m * p) r (s + m * r) := by
  obtain ⟨p1, p2, q1, q2, r1, r2, s1, s2, one⟩ := h
  have := mul3 m1 m2 p1 p2
  have := mul3 m1 m2 r1 r2
  exact ⟨by omega, by omega, by omega, by omega, by omega, by omega, by omega, by omega, by grind⟩
theorem Ch.turn {B p q r s : Int} (h : Ch B p q r s) : Ch (4 * B) q (-p) s (-r) := by
  obtain ⟨p1, p2, q1, q2, r1, r2, s1, s2, one⟩ := h
  exact ⟨by omega, by omega, by omega, by omega, by omega, by omega, by omega, by omega, by grind⟩
theorem Ch.chg {B p q r s : Int} (h : Ch B p q r s) (hB : B < 10 ^ 120) : Chg p q r s := by
  obtain ⟨p1, p2, q1, q2, r1, r2, s1, s2, one⟩ := h
  exact ⟨by omega, by omega, by omega, by omega, by omega, by omega, by omega, by omega, one⟩
theorem t3_eq {a b c x y z : Int} (h1 : a = x) (h2 : b = y) (h3 : c = z) : PyData.tuple [.int a, .int b, .int c] = .tuple [.int x, .int y, .int z] := by subst h1 h2 h3; rfl
theorem gcd3_dvd {a b c d : Int} : d ∣ ((Int.gcd (Int.gcd a b : Nat) c : Nat) : Int) ↔ d ∣ a ∧ d ∣ b ∧ d ∣ c := by
  rw [Int.dvd_coe_gcd_iff, Int.dvd_coe_gcd_iff, and_assoc]
theorem gcd3_eq {a b c A B C : Int} (h1 : ∀ d : Int, d ∣ a → d ∣ b → d ∣ c → d ∣ A ∧ d ∣ B ∧ d ∣ C) (h2 : ∀ d : Int, d ∣ A → d ∣ B → d ∣ C → d ∣ a ∧ d ∣ b ∧ d ∣ c) : Int.gcd (Int.gcd A B : Nat) C = Int.gcd (Int.gcd a b : Nat) c := by
  apply Nat.dvd_antisymm
  · have := (gcd3_dvd (d := ((Int.gcd (Int.gcd A B : Nat) C : Nat) : Int))).mp (Int.dvd_refl _)
    exact Int.ofNat_dvd.mp (gcd3_dvd.mpr (h2 _ this.1 this.2.1 this.2.2))
  · have := (gcd3_dvd (d := ((Int.gcd (Int.gcd a b : Nat) c : Nat) : Int))).mp (Int.dvd_refl _)
    exact Int.ofNat_dvd.mp (gcd3_dvd.mpr (h1 _ this.1 this.2.1 this.2.2))
/-- the form A B C is a b c changed by p q r s -/
structure Moved (a b c p q r s A B C : Int) : Prop where
  eA : a * p * p + b * p * r + c * r * r = A
  eB : 2 * a * p * q + b * (p * s + q * r) + 2 * c * r * s = B
  eC : a * q * q + b * q * s + c * s * s = C
  one : p * s - q * r = 1
section
variable {a b c p q r s A B C : Int}
theorem Moved.disc (h : Moved a b c p q r s A B C) : B * B - 4 * A * C = b * b - 4 * a * c := by
  obtain ⟨rfl, rfl, rfl, one⟩ := h
  grind
theorem Moved.ia (h : Moved a b c p q r s A B C) : a = A * (s * s) - B * (r * s) + C * (r * r) := by
  obtain ⟨rfl, rfl, rfl, one⟩ := h
  grind
theorem Moved.ib (h : Moved a b c p q r s A B C) : b = -2 * A * (q * s) + B * (p * s + q * r) - 2 * C * (p * r) := by
  obtain ⟨rfl, rfl, rfl, one⟩ := h
  grind
theorem Moved.ic (h : Moved a b c p q r s A B C) : c = A * (q * q) - B * (p * q) + C * (p * p) := by
  obtain ⟨rfl, rfl, rfl, one⟩ := h
  grind
theorem Moved.gcd (h : Moved a b c p q r s A B C) : Int.gcd (Int.gcd A B : Nat) C = Int.gcd (Int.gcd a b : Nat) c := by
  refine gcd3_eq (fun d h1 h2 h3 => ?_) (fun d h1 h2 h3 => ?_)
  · obtain ⟨x, rfl⟩ := h1
    obtain ⟨y, rfl⟩ := h2
    obtain ⟨z, rfl⟩ := h3
    refine ⟨⟨x * p * p + y * p * r + z * r * r, ?_⟩, ⟨2 * x * p * q + y * (p * s + q * r) + 2 * z * r * s, ?_⟩, ⟨x * q * q + y * q * s + z * s * s, ?_⟩⟩
    · rw [← h.eA]; grind
    · rw [← h.eB]; grind
    · rw [← h.eC]; grind
  · rw [h.ia, h.ib, h.ic]
    obtain ⟨x, rfl⟩ := h1
    obtain ⟨y, rfl⟩ := h2
    obtain ⟨z, rfl⟩ := h3
    refine ⟨⟨x * (s * s) - y * (r * s) + z * (r * r), by grind⟩, ⟨-2 * x * (q * s) + y * (p * s + q * r) - 2 * z * (p * r), by grind⟩, ⟨x * (q * q) - y * (p * q) + z * (p * p), by grind⟩⟩
theorem Moved.ne (h : Moved a b c p q r s A B C) (hne : ¬(a = 0 ∧ b = 0 ∧ c = 0)) : ¬(A = 0 ∧ B = 0 ∧ C = 0) := by
  rintro ⟨rfl, rfl, rfl⟩
  exact hne ⟨by rw [h.ia]; grind, by rw [h.ib]; grind, by rw [h.ic]; grind⟩
end
theorem Bd.small {i : Int} {n : Nat} (h : Bd n i) (hn : n ≤ 398) : -10 ^ 120 < i ∧ i < 10 ^ 120 := by
  have h1 := (h.mono hn).lt
  have e : (2 : Nat) ^ 398 < 10 ^ 120 := by decide
  omega
theorem Chg.of {p q r s : Int} {n : Nat} (hn : n ≤ 398) (bp : Bd n p) (bq : Bd n q) (br : Bd n r) (bs : Bd n s) (one : p * s - q * r = 1) : Chg p q r s :=
  ⟨(bp.small hn).1, (bp.small hn).2, (bq.small hn).1, (bq.small hn).2, (br.small hn).1, (br.small hn).2, (bs.small hn).1, (bs.small hn).2, one⟩
theorem t2_eq {a b x y : Int} (h1 : a = x) (h2 : b = y) : PyData.tuple [.int a, .int b] = .tuple [.int x, .int y] := by subst h1 h2; rfl
theorem Moved.form {a b c p q r s A B C : Int} (h : Moved a b c p q r s A B C) (f : Form a b c) {m : Int} (hm : ∀ y ∈ [(if A < 0 then -A else A), (if B < 0 then -B else B), (if C < 0 then -C else C)], y ≤ m) (h1 : m ≤ 10 ^ 18) : Form A B C := by
  have h2 := hm _ (List.mem_cons_self ..)
  have h3 := hm _ (List.mem_cons_of_mem _ (List.mem_cons_self ..))
  have h4 := hm _ (List.mem_cons_of_mem _ (List.mem_cons_of_mem _ (List.mem_cons_self ..)))
  rw [abs_nat] at h2 h3 h4
  exact ⟨by omega, by omega, by omega, by omega, by omega, by omega, h.ne f.ne⟩
theorem l3_eq {a b c x y z : D} (h1 : a = x) (h2 : b = y) (h3 : c = z) : PyData.list [a, b, c] = .list [x, y, z] := by subst h1 h2 h3; rfl
theorem bd120 {i : Int} (h1 : -(10 ^ 120) < i) (h2 : i < 10 ^ 120) : Bd 399 i := .of (by
  have e : (10 : Nat) ^ 120 < 2 ^ 399 := by decide
  omega)
theorem t4_eq {a b c d x y z w : Int} (h1 : a = x) (h2 : b = y) (h3 : c = z) (h4 : d = w) : PyData.tuple [.int a, .int b, .int c, .int d] = .tuple [.int x, .int y, .int z, .int w] := by subst h1 h2 h3 h4; rfl
theorem l5_eq {a b c d e x y z w v : D} (h1 : a = x) (h2 : b = y) (h3 : c = z) (h4 : d = w) (h5 : e = v) : PyData.list [a, b, c, d, e] = .list [x, y, z, w, v] := by subst h1 h2 h3 h4 h5; rfl
end DL

set_option Elab.async false
set_option linter.all false
set_option maxRecDepth 100000
set_option maxHeartbeats 4000000
/-! DLr: the meaning by rules, one a construct; each goal stays folded, so that the kernel has nothing to unfold. -/
namespace DL
open PySem PySem.Spec PyProof.Rows L2
def atE (e : En) (F : En → Prop) : Prop := F e
theorem r_at {e e' : En} {F : En → Prop} (h : e = e') (q : F e') : atE e F := by subst h; exact q
def isV : E → Bool
  | .v _ => true
  | _ => false
section
variable {cl : Cl} {refs : Nat → List Bool} {env e' : En} {Q : QK} {QB : Bool → En → Prop} {QD : D → En → Prop} {QH : Hn → En → Prop} {d : D} {i j : Nat} {a b c e t : E} {es : Es}
/-! operands -/
theorem r_oV {w : WE} (h : hasSl env i) (q : QH (.var i) env) : opO (.v i) w env QH := ⟨h, q⟩
theorem r_oE {w : WE} (h : isV e = false) (q : w env fun r e1 => oP (toD r) fun d => QH (.d d) e1) : opO e w env QH := by
  cases e <;> first | exact q | cases h
theorem r_oD {w : WE} (q : w env fun r e1 => oP (toD r) fun d => QD d e1) : opD w env QD := q
theorem r_oP {α : Type} {o : Option α} {x : α} {F : α → Prop} (h : o = some x) (q : F x) : oP o F := by subst h; exact q
/-! expressions -/
theorem r_c (q : Q (.val d) env) : wE cl refs (.c d) env Q := q
theorem r_g {x : Str} (q : Q (.val d) env) : wE cl refs (.g x d) env Q := q
theorem r_vv (h : env[i]? = some (.val d)) (q : Q (.val d) env) : wE cl refs (.v i) env Q := by
  show mV i env Q
  unfold mV; rw [h]; exact q
theorem r_vs {ns : List Int} (h : env[i]? = some (.scr ns)) (q : Q (.scr ns) env) : wE cl refs (.v i) env Q := by
  show mV i env Q
  unfold mV; rw [h]; exact q
theorem r_vo {ds : List D} (h : env[i]? = some (.own .free ds)) (q : atE (env.set i (.val (.list ds))) fun e => Q (.val (.list ds)) e) : wE cl refs (.v i) env Q := by
  show mV i env Q
  unfold mV; rw [h]; exact q
theorem r_bin {o : Bop} (q : opO a (wE cl refs a) env fun h1 e1 => opO b (wE cl refs b) e1 fun h2 e2 => oP (rd e2 h1) fun x => oP (rd e2 h2) fun y => wBin o x y fun r => Q r e2) : wE cl refs (.bin o a b) env Q := q
theorem r_neg (q : opD (wE cl refs a) env fun x e1 => oP (intD x) fun i => Q (.val (.int (-i))) e1) : wE cl refs (.neg a) env Q := q
theorem r_cmp {o : Cop} (q : opO a (wE cl refs a) env fun h1 e1 => opO b (wE cl refs b) e1 fun h2 e2 => oP (rd e2 h1) fun x => oP (rd e2 h2) fun y => wCmp o x y fun k => Q (.val (.bool k)) e2) : wE cl refs (.cmp o a b) env Q := q
theorem r_chain {o o' : Cop} (q : opO a (wE cl refs a) env fun h1 e1 => opO b (wE cl refs b) e1 fun h2 e2 => oP (rd e2 h1) fun x => oP (rd e2 h2) fun y => wCmp o x y fun k =>
    brB k (opO c (wE cl refs c) e2 fun h3 e3 => oP (rd e3 h2) fun y' => oP (rd e3 h3) fun z => wCmp o' y' z fun k' => Q (.val (.bool k')) e3) (Q (.val (.bool false)) e2)) : wE cl refs (.chain o o' a b c) env Q := q
theorem r_chain3 {o o' o2 : Cop} {f : E} (q : opO a (wE cl refs a) env fun h1 e1 => opO b (wE cl refs b) e1 fun h2 e2 => oP (rd e2 h1) fun x => oP (rd e2 h2) fun y => wCmp o x y fun k =>
    brB k (opO c (wE cl refs c) e2 fun h3 e3 => oP (rd e3 h2) fun y' => oP (rd e3 h3) fun z => wCmp o' y' z fun k' => brB k' (opO f (wE cl refs f) e3 fun h4 e4 => oP (rd e4 h3) fun z' => oP (rd e4 h4) fun w => wCmp o2 z' w fun k2 => Q (.val (.bool k2)) e4) (Q (.val (.bool false)) e3)) (Q (.val (.bool false)) e2)) : wE cl refs (.chain3 o o' o2 a b c f) env Q := q
theorem r_isc {n : Bool} (q : opO a (wE cl refs a) env fun h1 e1 => oP (rd e1 h1) fun x => wIs x d fun k => Q (.val (.bool (n != k))) e1) : wE cl refs (.isc n a d) env Q := q
theorem r_and (q : opD (wE cl refs a) env fun x e1 => tru x fun k => brB k (wE cl refs b e1 Q) (Q (.val x) e1)) : wE cl refs (.and a b) env Q := q
theorem r_or (q : opD (wE cl refs a) env fun x e1 => tru x fun k => brB k (Q (.val x) e1) (wE cl refs b e1 Q)) : wE cl refs (.or a b) env Q := q
theorem r_not (q : opO a (wE cl refs a) env fun h1 e1 => oP (rd e1 h1) fun x => tru x fun k => Q (.val (.bool (!k))) e1) : wE cl refs (.not a) env Q := q
theorem r_ite (q : wT cl refs t env fun k e1 => brB k (wE cl refs a e1 Q) (wE cl refs b e1 Q)) : wE cl refs (.ite t a b) env Q := q
theorem r_tup (q : wEs cl refs es env fun ds e1 => ds.length ≤ sizeLine ∧ Q (.val (.tuple ds)) e1) : wE cl refs (.tup es) env Q := q
theorem r_lst (q : wEs cl refs es env fun ds e1 => ds.length ≤ sizeLine ∧ Q (.own .free ds) e1) : wE cl refs (.lst es) env Q := q
theorem r_ix (q : opO a (wE cl refs a) env fun h1 e1 => opD (wE cl refs b) e1 fun k e2 => oP (rd e2 h1) fun x => stp (wIx x k fun r => Q r e2)) : wE cl refs (.ix a b) env Q := q
theorem r_sl {lo hi : Eo} (q : opO a (wE cl refs a) env fun h1 e1 => wEo cl refs lo e1 fun l e2 => wEo cl refs hi e2 fun u e3 => oP (rd e3 h1) fun x => wSl x l u fun r => Q r e3) : wE cl refs (.sl a lo hi) env Q := q
theorem r_rev (q : opO a (wE cl refs a) env fun h1 e1 => oP (rd e1 h1) fun x => wRev x fun r => Q r e1) : wE cl refs (.rev a) env Q := q
theorem r_isi {ty : Ty} (q : opO a (wE cl refs a) env fun h1 e1 => oP (rd e1 h1) fun x => noDic x = true ∧ Q (.val (.bool (isTy x ty))) e1) : wE cl refs (.isi a ty) env Q := q
theorem r_bi1 {bi : Bi} (hb : bi ≠ .list) (q : opO a (wE cl refs a) env fun h1 e1 => oP (rd e1 h1) fun x => wBi1 bi x fun r => Q r e1) : wE cl refs (.bi1 bi a) env Q := by
  have e : (wE cl refs (.bi1 bi a)) = mBi1 bi (opO a (wE cl refs a)) := rfl
  rw [e]
  cases bi <;> first | exact q | exact absurd rfl hb
def wLst (o : Option (List Int)) (h1 : Hn) (e1 : En) (Q : QK) : Prop := match o with
  | some ns => Q (.own .free (ns.map PyData.int)) e1
  | none => oP (rd e1 h1) fun x => wBi1 .list x fun r => Q r e1
theorem r_list (q : opO a (wE cl refs a) env fun h1 e1 => wLst (scrAt e1 h1) h1 e1 Q) : wE cl refs (.bi1 .list a) env Q := by
  have e1 : wE cl refs (.bi1 .list a) env Q = mBi1 .list (opO a (wE cl refs a)) env Q := rfl
  rw [e1]
  unfold mBi1
  refine Eq.mp (congrArg (opO a (wE cl refs a) env) (funext fun h1 => funext fun e1 => ?_)) q
  unfold wLst
  cases scrAt e1 h1 <;> rfl
theorem r_lstS {o : Option (List Int)} {ns : List Int} {h1 : Hn} (h : o = some ns) (q : Q (.own .free (ns.map PyData.int)) env) : wLst o h1 env Q := by subst h; exact q
theorem r_lstN {o : Option (List Int)} {h1 : Hn} (h : o = none) (q : oP (rd env h1) fun x => wBi1 .list x fun r => Q r env) : wLst o h1 env Q := by subst h; exact q
theorem r_bi2 {bi : Bi} (q : opO a (wE cl refs a) env fun h1 e1 => opO b (wE cl refs b) e1 fun h2 e2 => oP (rd e2 h1) fun x => oP (rd e2 h2) fun y => wBi2 bi x y fun r => Q r e2) : wE cl refs (.bi2 bi a b) env Q := q
theorem r_call {f : Nat} {rs : List Bool} (hr : refs f = rs) (q : wAs cl refs rs es env fun as e1 => (lent as).Nodup ∧ oP (lend e1 as) fun args => stp (cl f args fun r outs => atE (back e1 as outs) fun e2 => Q r e2)) : wE cl refs (.call f es) env Q := by subst hr; exact q
theorem r_lc {g : Tg} {it : It} {tt : Eo} {own : List Nat} (q : wIt cl refs it env fun wk e1 => (∀ i ∈ own, plainSl e1[i]?) ∧
    stp (wComp (fun e => stillW e wk) (bindT g) (wTo cl refs tt) (opD (wE cl refs e)) own wk.ds [] (wipeD (lockW e1 wk) own) fun acc e2 => atE (unlockW (unwipe e1 own e2) wk) fun e3 => Q (.own .free acc) e3)) : wE cl refs (.lc e g it tt own) env Q := q
/-! tests -/
theorem t_and (q : wT cl refs a env fun k e1 => brB k (wT cl refs b e1 QB) (QB false e1)) : wT cl refs (.and a b) env QB := q
theorem t_or (q : wT cl refs a env fun k e1 => brB k (QB true e1) (wT cl refs b e1 QB)) : wT cl refs (.or a b) env QB := q
theorem t_not (q : wT cl refs a env fun k e1 => QB (!k) e1) : wT cl refs (.not a) env QB := q
theorem t_cmp {o : Cop} (q : opO a (wE cl refs a) env fun h1 e1 => opO b (wE cl refs b) e1 fun h2 e2 => oP (rd e2 h1) fun x => oP (rd e2 h2) fun y => wCmp o x y fun k => QB k e2) : wT cl refs (.cmp o a b) env QB := q
theorem t_chain {o o' : Cop} (q : opO a (wE cl refs a) env fun h1 e1 => opO b (wE cl refs b) e1 fun h2 e2 => oP (rd e2 h1) fun x => oP (rd e2 h2) fun y => wCmp o x y fun k =>
    brB k (opO c (wE cl refs c) e2 fun h3 e3 => oP (rd e3 h2) fun y' => oP (rd e3 h3) fun z => wCmp o' y' z fun k' => QB k' e3) (QB false e2)) : wT cl refs (.chain o o' a b c) env QB := q
theorem t_chain3 {o o' o2 : Cop} {f : E} (q : opO a (wE cl refs a) env fun h1 e1 => opO b (wE cl refs b) e1 fun h2 e2 => oP (rd e2 h1) fun x => oP (rd e2 h2) fun y => wCmp o x y fun k =>
    brB k (opO c (wE cl refs c) e2 fun h3 e3 => oP (rd e3 h2) fun y' => oP (rd e3 h3) fun z => wCmp o' y' z fun k' => brB k' (opO f (wE cl refs f) e3 fun h4 e4 => oP (rd e4 h3) fun z' => oP (rd e4 h4) fun w => wCmp o2 z' w fun k2 => QB k2 e4) (QB false e3)) (QB false e2)) : wT cl refs (.chain3 o o' o2 a b c f) env QB := q
theorem t_isc {n : Bool} (q : opO a (wE cl refs a) env fun h1 e1 => oP (rd e1 h1) fun x => wIs x d fun k => QB (n != k) e1) : wT cl refs (.isc n a d) env QB := q
theorem t_v {x : D} (h : rd env (.var i) = some x) (q : tru x fun k => QB k env) : wT cl refs (.v i) env QB := by
  show oP (rd env (.var i)) _
  rw [h]; exact q
theorem t_isi {ty : Ty} (q : opO a (wE cl refs a) env fun h1 e1 => oP (rd e1 h1) fun x => noDic x = true ∧ QB (isTy x ty) e1) : wT cl refs (.isi a ty) env QB := q
theorem t_bi1 {bi : Bi} (q : wE cl refs (.bi1 bi a) env fun r e1 => oP (toD r) fun d => tru d fun k => QB k e1) : wT cl refs (.bi1 bi a) env QB := q
theorem t_ix (q : wE cl refs (.ix a b) env fun r e1 => oP (toD r) fun d => tru d fun k => QB k e1) : wT cl refs (.ix a b) env QB := q
theorem t_call {f : Nat} (q : wE cl refs (.call f es) env fun r e1 => oP (toD r) fun d => tru d fun k => QB k e1) : wT cl refs (.call f es) env QB := q
theorem t_bin {o : Bop} (q : wE cl refs (.bin o a b) env fun r e1 => oP (toD r) fun d => tru d fun k => QB k e1) : wT cl refs (.bin o a b) env QB := q
/-! lists of expressions; what is walked -/
variable {QL : List D → En → Prop} {QO : Option Int → En → Prop} {QA : List Ar → En → Prop} {QW : Wk → En → Prop} {QR : List Sl → En → Prop} {rs : List Bool}
theorem es_nil (q : QL [] env) : wEs cl refs .nil env QL := q
theorem es_cons (q : opD (wE cl refs e) env fun d e1 => wEs cl refs es e1 fun ds e2 => QL (d :: ds) e2) : wEs cl refs (.cons e es) env QL := q
theorem eo_non (q : QO none env) : wEo cl refs .non env QO := q
theorem eo_som (q : opD (wE cl refs e) env fun d e1 => oP (intD d) fun i => QO (some i) e1) : wEo cl refs (.som e) env QO := q
theorem to_non (q : QB true env) : wTo cl refs .non env QB := q
theorem to_som (q : wT cl refs e env QB) : wTo cl refs (.som e) env QB := q
theorem as_nil (q : QA [] env) : wAs cl refs [] .nil env QA := ⟨rfl, q⟩
theorem as_ref (h : hasSl env i) (q : wAs cl refs rs es env fun as e2 => QA (.var i :: as) e2) : wAs cl refs (true :: rs) (.cons (.v i) es) env QA := ⟨h, q⟩
theorem as_val (q : wE cl refs e env fun r e1 => oP (argSl r) fun s => wAs cl refs rs es e1 fun as e2 => QA (.val s :: as) e2) : wAs cl refs (false :: rs) (.cons e es) env QA := q
theorem it_e (q : opO e (wE cl refs e) env fun h e1 => oP (wkOf e1 h) fun wk => QW wk e1) : wIt cl refs (.e e) env QW := q
theorem it_rng1 (q : opD (wE cl refs a) env fun d e1 => oP (intD d) fun j => (-(2 ^ 62) ≤ j ∧ j < 2 ^ 62) ∧ QW (.items (rngD 0 j.toNat)) e1) : wIt cl refs (.rng1 a) env QW := q
theorem it_rng2 (q : opD (wE cl refs a) env fun d e1 => opD (wE cl refs b) e1 fun d' e2 => oP (intD d) fun i => oP (intD d') fun j => (-(2 ^ 62) ≤ i ∧ i < 2 ^ 62 ∧ -(2 ^ 62) ≤ j ∧ j < 2 ^ 62) ∧ QW (.items (rngD i (j - i).toNat)) e2) : wIt cl refs (.rng2 a b) env QW := q
def wZip (d d' : D) (e2 : En) (QW : Wk → En → Prop) : Prop := match d, d' with
  | .list xs, .list ys => QW (.items (zipD xs ys)) e2
  | .tuple xs, .tuple ys => QW (.items (zipD xs ys)) e2
  | _, _ => False
theorem it_zip (q : opD (wE cl refs a) env fun d e1 => opD (wE cl refs b) e1 fun d' e2 => wZip d d' e2 QW) : wIt cl refs (.zip a b) env QW := q
theorem zip_l {xs ys : List D} (q : QW (.items (zipD xs ys)) env) : wZip (.list xs) (.list ys) env QW := q
theorem zip_t {xs ys : List D} (q : QW (.items (zipD xs ys)) env) : wZip (.tuple xs) (.tuple ys) env QW := q
def wEnu (d : D) (e1 : En) (QW : Wk → En → Prop) : Prop := match d with
  | .list xs => QW (.items (enumD 0 xs)) e1
  | _ => False
theorem it_enum (q : opD (wE cl refs a) env fun d e1 => wEnu d e1 QW) : wIt cl refs (.enum a) env QW := q
theorem enu_l {xs : List D} (q : QW (.items (enumD 0 xs)) env) : wEnu (.list xs) env QW := q
theorem rs_nil (q : QR [] env) : wRs cl refs .nil env QR := q
theorem rs_cons (q : wE cl refs e env fun r e1 => wRs cl refs es e1 fun rs e2 => QR (r :: rs) e2) : wRs cl refs (.cons e es) env QR := q
/-! targets -/
variable {QE : En → Prop} {ds : List D} {tg : Tg} {tgs : List Tg}
theorem b_n (h : freeSl env[i]?) (q : atE (env.set i (.val d)) QE) : bindT (.n i) d env QE := ⟨h, q⟩
theorem b_t (q : bindTs tgs ds env QE) : bindT (.t tgs) (.tuple ds) env QE := q
theorem bs_nil (q : QE env) : bindTs [] [] env QE := q
theorem bs_cons (q : bindT tg d env fun e1 => bindTs tgs ds e1 QE) : bindTs (tg :: tgs) (d :: ds) env QE := q
/-! statements -/
variable {nx : En → Prop} {rt : QK} {bk ct : En → Prop} {s : S} {r sa sb : Ss}
theorem ss_nil (q : nx env) : wSs cl refs .nil env ⟨nx, rt, bk, ct⟩ := q
theorem ss_cons (q : wS cl refs s env ⟨fun e1 => stp (wSs cl refs r e1 ⟨nx, rt, bk, ct⟩), rt, bk, ct⟩) : wSs cl refs (.cons s r) env ⟨nx, rt, bk, ct⟩ := q
theorem ss_go {K : AK} (q : wSs cl refs r env K) : stp (wSs cl refs r env K) := stp_of q
theorem s_asg (q : wE cl refs e env fun r e1 => freeSl e1[i]? ∧ atE (e1.set i r) nx) : wS cl refs (.asg (.n i) e) env ⟨nx, rt, bk, ct⟩ := q
theorem s_asgT (q : wE cl refs e env fun r e1 => oP (toD r) fun d => bindT (.t tgs) d e1 nx) : wS cl refs (.asg (.t tgs) e) env ⟨nx, rt, bk, ct⟩ := q
theorem s_par {is : List Nat} (q : wRs cl refs es env fun rs e1 => is.length = rs.length ∧ is.Nodup ∧ (∀ i ∈ is, freeSl e1[i]?) ∧ atE (setAll is rs e1) nx) : wS cl refs (.par is es) env ⟨nx, rt, bk, ct⟩ := q
theorem s_ex (q : wE cl refs e env fun _ e1 => nx e1) : wS cl refs (.ex e) env ⟨nx, rt, bk, ct⟩ := q
theorem s_ret0 (q : rt (.val .none) env) : wS cl refs .ret0 env ⟨nx, rt, bk, ct⟩ := q
theorem s_ret (h : isV e = false) (q : wE cl refs e env rt) : wS cl refs (.ret e) env ⟨nx, rt, bk, ct⟩ := by
  cases e <;> first | exact q | cases h
theorem s_retV {d : D} (h : env[i]? = some (.val d)) (q : rt (.val d) env) : wS cl refs (.ret (.v i)) env ⟨nx, rt, bk, ct⟩ := by
  show mRet (.v i) (wE cl refs (.v i)) env _
  unfold mRet
  dsimp only
  rw [h]
  show mV i env rt
  unfold mV; rw [h]; exact q
theorem s_retO {ds : List D} (h : env[i]? = some (.own .free ds)) (q : atE (env.set i .no) fun e => rt (.own .free ds) e) : wS cl refs (.ret (.v i)) env ⟨nx, rt, bk, ct⟩ := by
  show mRet (.v i) (wE cl refs (.v i)) env _
  unfold mRet
  dsimp only
  rw [h]; exact q
theorem s_ite (q : wT cl refs t env fun k e1 => brB k (wSs cl refs sa e1 ⟨nx, rt, bk, ct⟩) (wSs cl refs sb e1 ⟨nx, rt, bk, ct⟩)) : wS cl refs (.ite t sa sb) env ⟨nx, rt, bk, ct⟩ := q
theorem s_whl (q : stp (∃ n, wLoop (wT cl refs t) (wSs cl refs sb) n env ⟨nx, rt, bk, ct⟩)) : wS cl refs (.whl t sb) env ⟨nx, rt, bk, ct⟩ := q
theorem s_for {it : It} (q : wIt cl refs it env fun wk e1 => stp (wFor (fun e => stillW e wk) (bindT tg) (wSs cl refs sb) wk.ds (lockW e1 wk) ⟨fun e2 => atE (unlockW e2 wk) nx, fun r e2 => atE (unlockW e2 wk) fun e3 => rt r e3, fun _ => False, fun _ => False⟩)) : wS cl refs (.for tg it sb) env ⟨nx, rt, bk, ct⟩ := q
theorem s_pass (q : nx env) : wS cl refs .pass env ⟨nx, rt, bk, ct⟩ := q
theorem s_brk (q : bk env) : wS cl refs .brk env ⟨nx, rt, bk, ct⟩ := q
theorem s_cnt (q : ct env) : wS cl refs .cnt env ⟨nx, rt, bk, ct⟩ := q
def wSetF (o : Option Sl) (i : Nat) (d : D) (j : Int) (e2 : En) (nx : En → Prop) : Prop := match o with
  | some (.own m ds) => m ≠ .lck ∧ oP (ixN ds.length j) fun n => nx (e2.set i (.own m (ds.set n d)))
  | _ => False
theorem s_set {m : Md} (h : env[i]? = some (.own m ds)) (q : opD (wE cl refs b) env fun d e1 => opD (wE cl refs a) e1 fun kk e2 => oP (intD kk) fun j => wSetF e2[i]? i d j e2 nx) : wS cl refs (.set i a b) env ⟨nx, rt, bk, ct⟩ := by
  show mSet i _ _ env _
  unfold mSet
  rw [h]
  exact q
theorem set_go {o : Option Sl} {m : Md} {j : Int} {n : Nat} (h : o = some (.own m ds)) (hm : m ≠ .lck) (hn : ixN ds.length j = some n) (q : atE (env.set i (.own m (ds.set n d))) nx) : wSetF o i d j env nx := by
  subst h
  refine ⟨hm, ?_⟩
  rw [hn]
  exact q
def wAppF (o : Option Sl) (i : Nat) (d : D) (e2 : En) (nx : En → Prop) : Prop := match o with
  | some (.own m ds) => m ≠ .lck ∧ ds.length < sizeLine ∧ nx (e2.set i (.own m (ds ++ [d])))
  | _ => False
theorem s_app {m : Md} (h : env[i]? = some (.own m ds)) (q : opD (wE cl refs b) env fun d e1 => wAppF e1[i]? i d e1 nx) : wS cl refs (.app i b) env ⟨nx, rt, bk, ct⟩ := by
  show mApp i _ env _
  unfold mApp
  rw [h]
  exact q
theorem app_go {o : Option Sl} {m : Md} (h : o = some (.own m ds)) (hm : m ≠ .lck) (hl : ds.length < sizeLine) (q : atE (env.set i (.own m (ds ++ [d]))) nx) : wAppF o i d env nx := by
  subst h
  exact ⟨hm, hl, q⟩
end
/-! ### operators -/
section
variable {F : Sl → Prop} {FB : Bool → Prop} {i j : Int} {xs ys : List D} {x y : D} {bs : List Bool}
theorem o_addI (q : F (.val (.int (i + j)))) : wBin .add (.int i) (.int j) F := q
theorem o_addL (h : xs.length + ys.length ≤ sizeLine) (q : F (.own .free (xs ++ ys))) : wBin .add (.list xs) (.list ys) F := ⟨h, q⟩
theorem o_addT (h : xs.length + ys.length ≤ sizeLine) (q : F (.val (.tuple (xs ++ ys)))) : wBin .add (.tuple xs) (.tuple ys) F := ⟨h, q⟩
theorem o_subI (q : F (.val (.int (i - j)))) : wBin .sub (.int i) (.int j) F := q
theorem o_mulI (h : IntMulOk i j) (q : F (.val (.int (i * j)))) : wBin .mul (.int i) (.int j) F := ⟨h, q⟩
theorem o_mulL (h : -(2 ^ 63) ≤ i ∧ i < 2 ^ 63 ∧ xs.length * i.toNat ≤ sizeLine) (q : F (.own .free (List.replicate i.toNat xs).flatten)) : wBin .mul (.list xs) (.int i) F := ⟨h, q⟩
theorem o_mulT (h : xs ≠ [] ∧ 2 ≤ i ∧ i ≤ 1000 ∧ xs.length ≤ 1000) (q : F (.val (.tuple (List.replicate i.toNat xs).flatten))) : wBin .mul (.tuple xs) (.int i) F := ⟨h, q⟩
theorem o_fdivI (h : j ≠ 0 ∧ j.natAbs.log2 < 9000) (q : F (.val (.int (i.fdiv j)))) : wBin .fdiv (.int i) (.int j) F := ⟨h, q⟩
theorem o_modI (h : j ≠ 0) (q : F (.val (.int (i.fmod j)))) : wBin .mod (.int i) (.int j) F := ⟨h, q⟩
theorem o_powI (h : CPow i j) (q : F (.val (.int (i ^ j.toNat)))) : wBin .pow (.int i) (.int j) F := ⟨h, q⟩
theorem o_eqI (q : FB (i == j)) : wCmp .eq (.int i) (.int j) FB := ⟨⟨rfl, rfl⟩, by rw [eqv_i]; exact q⟩
theorem o_neI (q : FB (!(i == j))) : wCmp .ne (.int i) (.int j) FB := ⟨⟨rfl, rfl⟩, by rw [eqv_i]; exact q⟩
theorem o_eq (h : SeqAt.shaped x = true ∧ SeqAt.shaped y = true) (q : FB (PyData.eqv x y)) : wCmp .eq x y FB := ⟨h, q⟩
theorem o_ne (h : SeqAt.shaped x = true ∧ SeqAt.shaped y = true) (q : FB (!PyData.eqv x y)) : wCmp .ne x y FB := ⟨h, q⟩
theorem o_ltI (q : FB (decide (i < j))) : wCmp .lt (.int i) (.int j) FB := q
theorem o_ltT {k : Bool} (h : SeqAt.shaped (.tuple xs) = true ∧ SeqAt.shaped (.tuple ys) = true) (hk : ltD (.tuple xs) (.tuple ys) = some k) (q : FB k) : wCmp .lt (.tuple xs) (.tuple ys) FB := ⟨h, by show oP (ltD _ _) _; rw [hk]; exact q⟩
theorem o_leI (q : FB (decide (i ≤ j))) : wCmp .le (.int i) (.int j) FB := q
theorem o_gtI (q : FB (decide (j < i))) : wCmp .gt (.int i) (.int j) FB := q
theorem o_geI (q : FB (decide (j ≤ i))) : wCmp .ge (.int i) (.int j) FB := q
theorem o_inT (h : flatD x = true ∧ xs.all flatD = true) (q : FB (xs.any fun z => PyData.eqv z x)) : wCmp .inn x (.tuple xs) FB := ⟨h, q⟩
theorem o_ninT (h : flatD x = true ∧ xs.all flatD = true) (q : FB (!xs.any fun z => PyData.eqv z x)) : wCmp .nin x (.tuple xs) FB := ⟨h, q⟩
theorem o_inL (h : SeqAt.shaped x = true ∧ SeqAt.shaped (.list xs) = true) (q : FB (xs.any fun z => PyData.eqv z x)) : wCmp .inn x (.list xs) FB := ⟨h, q⟩
theorem o_ninL (h : SeqAt.shaped x = true ∧ SeqAt.shaped (.list xs) = true) (q : FB (!xs.any fun z => PyData.eqv z x)) : wCmp .nin x (.list xs) FB := ⟨h, q⟩
theorem o_isNN (q : FB true) : wIs .none .none FB := q
theorem o_isN (h : (match x with | .none => true | _ => false) = false) (q : FB false) : wIs x .none FB := by cases x <;> first | exact q | cases h
theorem o_isB {b c : Bool} (q : FB (decide (c = b))) : wIs (.bool c) (.bool b) FB := q
theorem o_truN (q : FB false) : tru .none FB := q
theorem o_truB {b : Bool} (q : FB b) : tru (.bool b) FB := q
theorem o_truI (q : FB (i != 0)) : tru (.int i) FB := q
theorem o_truL (q : FB (!xs.isEmpty)) : tru (.list xs) FB := q
theorem o_truT (q : FB (!xs.isEmpty)) : tru (.tuple xs) FB := q
theorem o_lenL (q : F (.val (.int xs.length))) : wBi1 .len (.list xs) F := q
theorem o_lenT (q : F (.val (.int xs.length))) : wBi1 .len (.tuple xs) F := q
theorem o_abs (q : F (.val (.int (if i < 0 then -i else i)))) : wBi1 .abs (.int i) F := q
theorem o_int (q : F (.val (.int i))) : wBi1 .int (.int i) F := q
theorem o_listL (q : F (.own .free xs)) : wBi1 .list (.list xs) F := q
theorem o_listT (q : F (.own .free xs)) : wBi1 .list (.tuple xs) F := q
theorem o_tupL (q : F (.val (.tuple xs))) : wBi1 .tuple (.list xs) F := q
theorem o_tupT (q : F (.val (.tuple xs))) : wBi1 .tuple (.tuple xs) F := q
theorem o_all (h : xs = bs.map PyData.bool) (q : F (.val (.bool (bs.all id)))) : wBi1 .all (.list xs) F := ⟨bs, h, q⟩
theorem o_any (h : xs = bs.map PyData.bool) (q : F (.val (.bool (bs.any id)))) : wBi1 .any (.list xs) F := ⟨bs, h, q⟩
theorem o_max1 {ns : List Int} (h : xs = ns.map PyData.int) (h0 : 0 < ns.length) (q : ∀ m, m ∈ ns → (∀ y ∈ ns, y ≤ m) → F (.val (.int m))) : wBi1 .max1 (.list xs) F := .inl ⟨ns, h, h0, q⟩
theorem o_max1G (q : wBest PySem.W.maxD xs fun d => F (.val d)) : wBi1 .max1 (.list xs) F := .inr q
theorem o_max1T (q : wBest PySem.W.maxD xs fun d => F (.val d)) : wBi1 .max1 (.tuple xs) F := q
theorem o_min1 {ns : List Int} (h : xs = ns.map PyData.int) (h0 : 0 < ns.length) (q : ∀ m, m ∈ ns → (∀ y ∈ ns, m ≤ y) → F (.val (.int m))) : wBi1 .min1 (.list xs) F := .inl ⟨ns, h, h0, q⟩
theorem o_min1G (q : wBest PySem.W.minD xs fun d => F (.val d)) : wBi1 .min1 (.list xs) F := .inr q
theorem o_min1T (q : wBest PySem.W.minD xs fun d => F (.val d)) : wBi1 .min1 (.tuple xs) F := q
theorem o_sum {ns : List Int} (h : xs = ns.map PyData.int) (q : F (.val (.int ns.sum))) : wBi1 .sum (.list xs) F := ⟨ns, h, q⟩
theorem o_sorted {ns : List Int} (h : xs = ns.map PyData.int) (q : ∀ ns' : List Int, ns'.Perm ns → ns'.Pairwise (· ≤ ·) → F (.own .free (ns'.map PyData.int))) : wBi1 .sorted (.list xs) F := .inl ⟨ns, h, q⟩
theorem o_sortedD (h : Sortable xs) (q : ∀ es : List D, es.Perm xs → es.Pairwise (fun d e => HT.lexLt (flat e) (flat d) = false) → F (.own .free es)) : wBi1 .sorted (.list xs) F := .inr (.inl ⟨h, q⟩)
theorem o_sortedG (h : Ordered xs) (q : F (.own .free (sortL xs))) : wBi1 .sorted (.list xs) F := .inr (.inr ⟨h, q⟩)
theorem o_sortedT (h : Sortable xs) (q : ∀ es : List D, es.Perm xs → es.Pairwise (fun d e => HT.lexLt (flat e) (flat d) = false) → F (.own .free es)) : wBi1 .sorted (.tuple xs) F := ⟨h, q⟩
theorem o_max2 (q : F (.val (.int (if j > i then j else i)))) : wBi2 .max2 (.int i) (.int j) F := q
theorem o_min2 (q : F (.val (.int (if j < i then j else i)))) : wBi2 .min2 (.int i) (.int j) F := q
theorem o_slL {lo hi : Option Int} (q : F (.own .free (cutD xs lo hi))) : wSl (.list xs) lo hi F := q
theorem o_slT {lo hi : Option Int} (q : F (.val (.tuple (cutD xs lo hi)))) : wSl (.tuple xs) lo hi F := q
theorem o_revL (q : F (.own .free xs.reverse)) : wRev (.list xs) F := q
end
/-! ### loops -/
section
variable {st : En → Prop} {bd : D → En → (En → Prop) → Prop} {b : En → AK → Prop} {nx : En → Prop} {rt : QK} {bk ct : En → Prop} {t : WB} {el : WD} {own : List Nat} {QL : List D → En → Prop} {x : D} {xs acc : List D} {env : En}
theorem r_lend {e : En} {as : List Ar} {args args' : List Sl} {F : List Sl → Prop} (h : lend e as = some args) (h2 : args = args') (q : F args') : oP (lend e as) F := by subst h2; rw [h]; exact q
theorem wf_nil (h : st env) (q : nx env) : wFor st bd b [] env ⟨nx, rt, bk, ct⟩ := ⟨h, q⟩
theorem wf_cons (h : st env) (q : bd x env fun e1 => b e1 ⟨fun e2 => wFor st bd b xs e2 ⟨nx, rt, bk, ct⟩, fun r e2 => st e2 ∧ rt r e2, fun e2 => st e2 ∧ nx e2, fun e2 => wFor st bd b xs e2 ⟨nx, rt, bk, ct⟩⟩) : wFor st bd b (x :: xs) env ⟨nx, rt, bk, ct⟩ := ⟨h, q⟩
theorem wc_nil (h : st env) (q : QL acc env) : wComp st bd t el own [] acc env QL := ⟨h, q⟩
theorem wc_cons (h : st env) (q : bd x env fun e1 => t e1 fun c e2 => brB c (el e2 fun d e3 => acc.length < sizeLine ∧ atE (wipeD e3 own) fun e4 => wComp st bd t el own xs (acc ++ [d]) e4 QL) (atE (wipeD e2 own) fun e4 => wComp st bd t el own xs acc e4 QL)) : wComp st bd t el own (x :: xs) acc env QL := ⟨h, q⟩
theorem wl_succ {n : Nat} (q : t env fun c e1 => brB c (b e1 ⟨fun e2 => wLoop t b n e2 ⟨nx, rt, bk, ct⟩, rt, nx, fun e2 => wLoop t b n e2 ⟨nx, rt, bk, ct⟩⟩) (nx e1)) : wLoop t b (n + 1) env ⟨nx, rt, bk, ct⟩ := q
theorem wc_openI {e' : En} (h : env = e') (q : wComp st bd t el own xs acc e' QL) : stp (wComp st bd t el own (Wk.items xs).ds acc env QL) := by subst h; exact stp_of q
theorem wc_openV {e' : En} {i : Nat} {m : Md} (h : env = e') (q : wComp st bd t el own xs acc e' QL) : stp (wComp st bd t el own (Wk.var i m xs).ds acc env QL) := by subst h; exact stp_of q
theorem wf_openI {K : AK} {e' : En} (h : env = e') (q : wFor st bd b xs e' K) : stp (wFor st bd b (Wk.items xs).ds env K) := by subst h; exact stp_of q
theorem wf_openV {K : AK} {e' : En} {i : Nat} {m : Md} (h : env = e') (q : wFor st bd b xs e' K) : stp (wFor st bd b (Wk.var i m xs).ds env K) := by subst h; exact stp_of q
theorem dFor_run (I : List D → En → Prop) (hn : ∀ e, I [] e → wFor st bd b [] e ⟨nx, rt, bk, ct⟩)
    (hc : ∀ x xs e, I (x :: xs) e → (∀ e', I xs e' → wFor st bd b xs e' ⟨nx, rt, bk, ct⟩) → wFor st bd b (x :: xs) e ⟨nx, rt, bk, ct⟩) (h : I xs env) : stp (wFor st bd b xs env ⟨nx, rt, bk, ct⟩) :=
  stp_of (wFor_run I (fun e h => hn e h) hc h)
theorem dComp_run (I : List D → List D → En → Prop) (hn : ∀ acc e, I [] acc e → wComp st bd t el own [] acc e QL)
    (hc : ∀ x xs acc e, I (x :: xs) acc e → (∀ acc' e', I xs acc' e' → wComp st bd t el own xs acc' e' QL) → wComp st bd t el own (x :: xs) acc e QL) (h : I xs acc env) : stp (wComp st bd t el own xs acc env QL) :=
  stp_of (wComp_run I (fun acc e h => hn acc e h) hc h)
end
/-! ### which kind of goal -/
section
variable {cl : Cl} {refs : Nat → List Bool} {env : En} {K : AK}
theorem bl_nil {l : List Bool} (h : l = []) : l = [] := h
theorem bl_cons {l t t' : List Bool} {b b' : Bool} (h : l = b :: t) (hb : b = b') (ht : t = t') : l = b' :: t' := by subst hb ht; exact h
theorem gE {e : E} {Q : QK} (q : wE cl refs e env Q) : wE cl refs e env Q := q
theorem gT {e : E} {Q : Bool → En → Prop} (q : wT cl refs e env Q) : wT cl refs e env Q := q
theorem gS {s : S} (q : wS cl refs s env K) : wS cl refs s env K := q
theorem gSs {s : Ss} (q : wSs cl refs s env K) : wSs cl refs s env K := q
theorem gO {e : E} {w : WE} {Q : Hn → En → Prop} (q : opO e w env Q) : opO e w env Q := q
theorem gP {α : Type} {o : Option α} {F : α → Prop} (q : oP o F) : oP o F := q
theorem gBin {o : Bop} {x y : D} {F : Sl → Prop} (q : wBin o x y F) : wBin o x y F := q
theorem gCmp {o : Cop} {x y : D} {F : Bool → Prop} (q : wCmp o x y F) : wCmp o x y F := q
theorem gTru {x : D} {F : Bool → Prop} (q : tru x F) : tru x F := q
theorem gBi1 {b : Bi} {x : D} {F : Sl → Prop} (q : wBi1 b x F) : wBi1 b x F := q
theorem gStp {p : Prop} (q : stp p) : stp p := q
theorem gBr {k : Bool} {a b : Prop} (q : brB k a b) : brB k a b := q
end
theorem neI {x y : Int} (h : x = y) : (!(x == y)) = false := by subst h; simp
theorem neD {x y : D} (h : x = y) (hc : x.canLay0 = true) : (!PyData.eqv x y) = false := by rw [eqv_same hc h]; rfl
end DL

set_option Elab.async false
set_option linter.all false
set_option maxRecDepth 100000
set_option maxHeartbeats 4000000
set_option exponentiation.threshold 4000
/-! DLs: comprehensions as maps and filters; judges of any data; roots. -/
namespace DL
open PySem PySem.Spec PyProof.Rows L2
section
variable {st : En → Prop} {bd : D → En → (En → Prop) → Prop} {b : En → AK → Prop} {t : WB} {el : WD} {own : List Nat} {QL : List D → En → Prop} {xs acc : List D} {env : En} {K : AK}
theorem wc_keepI {e' : En} (h : env = e') (q : stp (wComp st bd t el own xs acc e' QL)) : stp (wComp st bd t el own (Wk.items xs).ds acc env QL) := by subst h; exact q
theorem wc_keepV {e' : En} {i : Nat} {m : Md} (h : env = e') (q : stp (wComp st bd t el own xs acc e' QL)) : stp (wComp st bd t el own (Wk.var i m xs).ds acc env QL) := by subst h; exact q
theorem wf_keepI {e' : En} (h : env = e') (q : stp (wFor st bd b xs e' K)) : stp (wFor st bd b (Wk.items xs).ds env K) := by subst h; exact q
theorem wf_keepV {e' : En} {i : Nat} {m : Md} (h : env = e') (q : stp (wFor st bd b xs e' K)) : stp (wFor st bd b (Wk.var i m xs).ds env K) := by subst h; exact q
/-- a comprehension that makes one item of each -/
theorem dComp_map (f : D → D) (P : D → Prop) (hP : ∀ x ∈ xs, P x) (hl : xs.length ≤ sizeLine)
    (step : ∀ x rest acc, P x → acc.length < sizeLine → wComp st bd t el own rest (acc ++ [f x]) env QL → wComp st bd t el own (x :: rest) acc env QL)
    (hn : wComp st bd t el own [] (xs.map f) env QL) : stp (wComp st bd t el own xs [] env QL) := by
  refine stp_of ?_
  have all : ∀ (l acc : List D), (∀ x ∈ l, P x) → acc.length + l.length ≤ sizeLine → wComp st bd t el own [] (acc ++ l.map f) env QL → wComp st bd t el own l acc env QL := by
    intro l
    induction l with
    | nil => intro acc _ _ h; rw [List.map_nil, List.append_nil] at h; exact h
    | cons x rest ih =>
      intro acc hp hl h
      have hl' : acc.length + (rest.length + 1) ≤ sizeLine := hl
      refine step x rest acc (hp x (List.mem_cons_self ..)) (by omega) ?_
      refine ih _ (fun y hy => hp y (List.mem_cons_of_mem _ hy)) (by rw [List.length_append]; show acc.length + 1 + _ ≤ _; omega) ?_
      rw [List.append_assoc]
      exact h
  exact all xs [] hP (by simpa using hl) hn
/-- a comprehension that keeps some and makes one item of each -/
theorem dComp_fm (p : D → Bool) (f : D → D) (P : D → Prop) (hP : ∀ x ∈ xs, P x) (hl : xs.length ≤ sizeLine)
    (step : ∀ x rest acc, P x → acc.length < sizeLine → wComp st bd t el own rest (if p x = true then acc ++ [f x] else acc) env QL → wComp st bd t el own (x :: rest) acc env QL)
    (hn : wComp st bd t el own [] ((xs.filter p).map f) env QL) : stp (wComp st bd t el own xs [] env QL) := by
  refine stp_of ?_
  have all : ∀ (l acc : List D), (∀ x ∈ l, P x) → acc.length + l.length ≤ sizeLine → wComp st bd t el own [] (acc ++ (l.filter p).map f) env QL → wComp st bd t el own l acc env QL := by
    intro l
    induction l with
    | nil => intro acc _ _ h; rw [List.filter_nil, List.map_nil, List.append_nil] at h; exact h
    | cons x rest ih =>
      intro acc hp hl h
      have hl' : acc.length + (rest.length + 1) ≤ sizeLine := hl
      refine step x rest acc (hp x (List.mem_cons_self ..)) (by omega) ?_
      by_cases hx : p x = true
      · rw [if_pos hx]
        refine ih _ (fun y hy => hp y (List.mem_cons_of_mem _ hy)) (by rw [List.length_append]; show acc.length + 1 + _ ≤ _; omega) ?_
        rw [List.append_assoc]
        rw [List.filter_cons_of_pos hx] at h
        exact h
      · rw [if_neg hx]
        refine ih _ (fun y hy => hp y (List.mem_cons_of_mem _ hy)) (by omega) ?_
        rw [List.filter_cons_of_neg hx] at h
        exact h
  exact all xs [] hP (by simpa using hl) hn
end
/-! ### judges of any data -/
def intQ : D → Bool
  | .int _ => true
  | _ => false
def wholeQ (lo hi : Int) : D → Bool
  | .int i => decide (lo ≤ i) && decide (i ≤ hi)
  | _ => false
def belowQ (b : Int) : D → Bool
  | .int i => decide (-b < i) && decide (i < b)
  | _ => false
def tupQ (lo hi : Int) : D → Bool
  | .tuple ds => decide (lo ≤ ds.length) && decide ((ds.length : Int) ≤ hi)
  | _ => false
theorem wholeQ_int {lo hi : Int} {d : D} (h : wholeQ lo hi d = true) : ∃ i, d = .int i ∧ lo ≤ i ∧ i ≤ hi := by
  cases d <;> first | (cases h; done) | skip
  rename_i i
  simp only [wholeQ, Bool.and_eq_true, decide_eq_true_eq] at h
  exact ⟨i, rfl, h⟩
theorem belowQ_int {b : Int} {d : D} (h : belowQ b d = true) : ∃ i, d = .int i ∧ -b < i ∧ i < b := by
  cases d <;> first | (cases h; done) | skip
  rename_i i
  simp only [belowQ, Bool.and_eq_true, decide_eq_true_eq] at h
  exact ⟨i, rfl, h⟩
theorem tupQ_len {n : Nat} {d : D} : tupQ n n d = true ↔ ∃ ds, d = .tuple ds ∧ ds.length = n := by
  constructor
  · intro h
    cases d <;> first | (cases h; done) | skip
    rename_i ds
    simp only [tupQ, Bool.and_eq_true, decide_eq_true_eq] at h
    exact ⟨ds, rfl, by omega⟩
  · rintro ⟨ds, rfl, h⟩
    simp only [tupQ, Bool.and_eq_true, decide_eq_true_eq]
    omega
/-- a thing that may be compared, held, handed on: nested n deep at most -/
structure Any (n : Nat) (d : D) : Prop where
  lay : d.canLay0 = true
  dep : d.depth ≤ n
theorem Any.nd {n : Nat} {d : D} (h : Any n d) : noDic d = true := by
  have := h.lay
  cases d <;> first | rfl | (simp [PyData.canLay0] at this; done)
theorem Any.shaped {n : Nat} {d : D} (h : Any n d) (hn : n ≤ 64) : SeqAt.shaped d = true := by
  unfold SeqAt.shaped
  rw [h.lay, Bool.true_and]
  exact decide_eq_true (Nat.le_trans h.dep hn)
theorem Any.mono {m n : Nat} {d : D} (h : Any m d) (l : m ≤ n) : Any n d := ⟨h.lay, Nat.le_trans h.dep l⟩
theorem canLayAll0_of : ∀ {ds : List D}, (∀ x ∈ ds, x.canLay0 = true) → PyData.canLayAll0 ds = true
  | [], _ => by unfold PyData.canLayAll0; rfl
  | x :: xs, h => by
    unfold PyData.canLayAll0
    rw [h x (List.mem_cons_self ..), canLayAll0_of fun y hy => h y (List.mem_cons_of_mem _ hy)]
    rfl
theorem depthAll_le {n : Nat} : ∀ {ds : List D}, (∀ x ∈ ds, x.depth ≤ n) → PyData.depthAll ds ≤ n
  | [], _ => by unfold PyData.depthAll; omega
  | x :: xs, h => by
    unfold PyData.depthAll
    exact Nat.max_le.mpr ⟨h x (List.mem_cons_self ..), depthAll_le fun y hy => h y (List.mem_cons_of_mem _ hy)⟩
theorem Any.list {n : Nat} {ds : List D} (h : ∀ x ∈ ds, Any n x) : Any (n + 1) (.list ds) := ⟨by
  unfold PyData.canLay0
  exact canLayAll0_of fun x hx => (h x hx).lay, by
  unfold PyData.depth
  exact Nat.succ_le_succ (depthAll_le fun x hx => (h x hx).dep)⟩
theorem Any.tup {n : Nat} {ds : List D} (h : ∀ x ∈ ds, Any n x) : Any (n + 1) (.tuple ds) := ⟨by
  unfold PyData.canLay0
  exact canLayAll0_of fun x hx => (h x hx).lay, by
  unfold PyData.depth
  exact Nat.succ_le_succ (depthAll_le fun x hx => (h x hx).dep)⟩
theorem Any.items {n : Nat} {ds : List D} (h : Any (n + 1) (.tuple ds)) : ∀ x ∈ ds, Any n x := fun x hx => by
  have h1 := h.lay
  have h2 := h.dep
  unfold PyData.canLay0 at h1
  unfold PyData.depth at h2
  have := dep_mem hx h1
  exact ⟨this.1, by omega⟩
theorem Any.itemsL {n : Nat} {ds : List D} (h : Any (n + 1) (.list ds)) : ∀ x ∈ ds, Any n x := fun x hx => by
  have h1 := h.lay
  have h2 := h.dep
  unfold PyData.canLay0 at h1
  unfold PyData.depth at h2
  have := dep_mem hx h1
  exact ⟨this.1, by omega⟩
theorem Any.int {n : Nat} (i : Int) : Any n (.int i) := ⟨rfl, Nat.zero_le _⟩
theorem Any.bool {n : Nat} (b : Bool) : Any n (.bool b) := ⟨rfl, Nat.zero_le _⟩
theorem Any.none {n : Nat} : Any n .none := ⟨rfl, Nat.zero_le _⟩
theorem Any.t0 {n : Nat} {ds : List D} (h : Any n (.tuple ds)) : ∀ x ∈ ds, Any n x := by
  cases n with
  | zero =>
    have := h.dep
    unfold PyData.depth at this
    omega
  | succ n => exact fun x hx => (h.items x hx).mono (by omega)
theorem cutD_mem {xs : List D} {lo hi : Option Int} {x : D} (h : x ∈ cutD xs lo hi) : x ∈ xs := List.mem_of_mem_drop (List.mem_of_mem_take h)
theorem cutD_len {xs : List D} {lo hi : Option Int} : (cutD xs lo hi).length ≤ xs.length := by
  unfold cutD
  rw [List.length_take, List.length_drop]
  omega
theorem eqv_lnil {xs : List D} : PyData.eqv (.list xs) (.list []) = xs.isEmpty := by
  rw [eqv_l]
  cases xs with
  | nil => exact eqv_nil
  | cons x xs => rw [PyData.eqvAll]; rfl
theorem sqNN (r : Int) : 0 ≤ r * r := by
  rcases Int.le_total 0 r with h | h
  · exact Int.mul_nonneg h h
  · exact Int.mul_nonneg_of_nonpos_of_nonpos h h
theorem sq_lt {x : Nat} {n : Nat} : x * x ≤ n ↔ x ≤ Nat.sqrt n := by
  constructor
  · intro h
    have h2 := Nat.lt_succ_sqrt n
    apply Nat.le_of_lt_succ
    apply Nat.lt_of_not_le
    intro h3
    have := Nat.mul_le_mul h3 h3
    omega
  · intro h
    have := Nat.mul_le_mul h h
    have := Nat.sqrt_le n
    omega
def isSq (n : Int) : Bool := decide (0 ≤ n) && decide (Nat.sqrt n.toNat * Nat.sqrt n.toNat = n.toNat)
theorem isSq_iff {n : Int} : isSq n = true ↔ ∃ r : Int, r * r = n := by
  unfold isSq
  rw [Bool.and_eq_true, decide_eq_true_eq, decide_eq_true_eq]
  constructor
  · rintro ⟨h0, h⟩
    refine ⟨(Nat.sqrt n.toNat : Int), ?_⟩
    have : ((Nat.sqrt n.toNat * Nat.sqrt n.toNat : Nat) : Int) = ((n.toNat : Nat) : Int) := by rw [h]
    rw [Int.natCast_mul] at this
    omega
  · rintro ⟨r, rfl⟩
    have h0 : 0 ≤ r * r := by
      rcases Int.le_total 0 r with h | h
      · exact Int.mul_nonneg h h
      · exact Int.mul_nonneg_of_nonpos_of_nonpos h h
    refine ⟨h0, ?_⟩
    have e : (r * r).toNat = r.natAbs * r.natAbs := by
      have := Int.natAbs_mul_self (a := r)
      omega
    rw [e]
    have h1 : r.natAbs ≤ Nat.sqrt (r.natAbs * r.natAbs) := sq_lt.mp (Nat.le_refl _)
    have h2 : Nat.sqrt (r.natAbs * r.natAbs) ≤ r.natAbs := by
      apply Nat.le_of_not_lt
      intro h3
      have := Nat.mul_lt_mul'' h3 h3
      have := Nat.sqrt_le (r.natAbs * r.natAbs)
      omega
    have : Nat.sqrt (r.natAbs * r.natAbs) = r.natAbs := by omega
    rw [this]
/-! ### forms, changes, discriminants among any data -/
def fitsF : D → Bool
  | .tuple [x, y, z] => wholeQ (-10 ^ 18) (10 ^ 18) x && (wholeQ (-10 ^ 18) (10 ^ 18) y && wholeQ (-10 ^ 18) (10 ^ 18) z) && !PyData.eqv (.tuple [x, y, z]) (.tuple [.int 0, .int 0, .int 0])
  | _ => false
def turnQ : D → D → D → D → Bool
  | .int p, .int q, .int r, .int s => p * s - q * r == 1
  | _, _, _, _ => false
def fitsC : D → Bool
  | .tuple [p, q, r, s] => belowQ (10 ^ 120) p && (belowQ (10 ^ 120) q && (belowQ (10 ^ 120) r && belowQ (10 ^ 120) s)) && turnQ p q r s
  | _ => false
theorem fitsF3 (x y z : D) : fitsF (.tuple [x, y, z]) = (wholeQ (-10 ^ 18) (10 ^ 18) x && (wholeQ (-10 ^ 18) (10 ^ 18) y && wholeQ (-10 ^ 18) (10 ^ 18) z) && !PyData.eqv (.tuple [x, y, z]) (.tuple [.int 0, .int 0, .int 0])) := rfl
theorem fitsC4 (p q r s : D) : fitsC (.tuple [p, q, r, s]) = (belowQ (10 ^ 120) p && (belowQ (10 ^ 120) q && (belowQ (10 ^ 120) r && belowQ (10 ^ 120) s)) && turnQ p q r s) := rfl
def discQ (i : Int) : Bool := decide (-6000 ≤ i) && decide (i ≤ 6000) && (i.fmod 4 == 0 || i.fmod 4 == 1) && !isSq i
def fitsD : D → Bool
  | .int i => discQ i
  | _ => false
theorem tup3 {ds : List D} (h : ds.length = 3) : ∃ x y z, ds = [x, y, z] := by
  match ds, h with
  | [x, y, z], _ => exact ⟨x, y, z, rfl⟩
theorem tup4 {ds : List D} (h : ds.length = 4) : ∃ x y z w, ds = [x, y, z, w] := by
  match ds, h with
  | [x, y, z, w], _ => exact ⟨x, y, z, w, rfl⟩
theorem tup2 {ds : List D} (h : ds.length = 2) : ∃ x y, ds = [x, y] := by
  match ds, h with
  | [x, y], _ => exact ⟨x, y, rfl⟩
theorem fitsF_len {d : D} (h : ∀ ds, d = .tuple ds → ds.length ≠ 3) : fitsF d = false := by
  unfold fitsF
  split
  · exact absurd rfl (h _ rfl)
  · rfl
theorem fitsC_len {d : D} (h : ∀ ds, d = .tuple ds → ds.length ≠ 4) : fitsC d = false := by
  unfold fitsC
  split
  · exact absurd rfl (h _ rfl)
  · rfl
theorem tupQ_no {n : Nat} {d : D} (h : tupQ n n d = false) : ∀ ds, d = .tuple ds → ds.length ≠ n := by
  rintro ds rfl hl
  rw [tupQ_len.mpr ⟨ds, rfl, hl⟩] at h
  cases h
theorem fitsF_int {a b c : Int} : fitsF (.tuple [.int a, .int b, .int c]) = true ↔ Form a b c := by
  simp only [fitsF, wholeQ, eqv_t, eqv_cons, eqv_nil, eqv_i, Bool.and_eq_true, decide_eq_true_eq, Bool.not_eq_true', Bool.and_eq_false_iff, Bool.and_true, beq_eq_false_iff_ne, ne_eq]
  constructor
  · rintro ⟨⟨⟨h1, h2⟩, ⟨h3, h4⟩, h5, h6⟩, h⟩
    exact ⟨h1, h2, h3, h4, h5, h6, by omega⟩
  · rintro ⟨h1, h2, h3, h4, h5, h6, h⟩
    exact ⟨⟨⟨h1, h2⟩, ⟨h3, h4⟩, h5, h6⟩, by omega⟩
theorem fitsC_int {p q r s : Int} : fitsC (.tuple [.int p, .int q, .int r, .int s]) = true ↔ Chg p q r s := by
  simp only [fitsC, belowQ, turnQ, Bool.and_eq_true, decide_eq_true_eq, beq_iff_eq]
  constructor
  · rintro ⟨⟨⟨h1, h2⟩, ⟨h3, h4⟩, ⟨h5, h6⟩, h7, h8⟩, h⟩
    exact ⟨h1, h2, h3, h4, h5, h6, h7, h8, h⟩
  · rintro ⟨h1, h2, h3, h4, h5, h6, h7, h8, h⟩
    exact ⟨⟨⟨h1, h2⟩, ⟨h3, h4⟩, ⟨h5, h6⟩, h7, h8⟩, h⟩
def kindF (a b c : Int) : Str := if b * b - 4 * a * c < 0 then (if 0 < a then "definite" else "neither") else if isSq (b * b - 4 * a * c) = true then "neither" else "indefinite"
/-! ### lists as they are sliced -/
theorem l2_eq {a b x y : D} (h1 : a = x) (h2 : b = y) : PyData.list [a, b] = .list [x, y] := by subst h1 h2; rfl
theorem bool_eq {a b : Bool} (h : a = b) : PyData.bool a = .bool b := by subst h; rfl
theorem int_eq {a b : Int} (h : a = b) : PyData.int a = .int b := by subst h; rfl
theorem str_eq {a b : Str} (h : a = b) : PyData.str a = .str b := by subst h; rfl
theorem natStr_len {n k : Nat} (hk : 0 < k) : (Str.ofString (toString ((n : Nat) : Int))).length ≤ k ↔ n < 10 ^ k := by
  rw [PySem.ofString_length]
  have e : (toString ((n : Nat) : Int)).length = (Nat.toDigits 10 n).length := by
    rw [show toString ((n : Nat) : Int) = n.repr from rfl, ← String.length_toList, Nat.toList_repr]
  rw [e]
  exact Nat.length_toDigits_le_iff (by decide) hk
theorem dx_memT {xs : List D} {i : Int} {Q : Sl → Prop} (h0 : 0 ≤ i) (h1 : i < xs.length) (hQ : ∀ d ∈ xs, Q (.val d)) : stp (wIx (.tuple xs) (.int i) Q) := by
  obtain ⟨d, e, m⟩ := atI_mem h0 h1
  exact dx_tup e (hQ d m)
theorem le_line {n : Nat} (h : n ≤ 1000) : n ≤ sizeLine := Nat.le_trans h (of_decide_eq_true rfl)
theorem Ch.bd2 {B p q r s : Int} (h : Ch B p q r s) (hB : B ≤ 2 ^ 200) : Bd 210 p ∧ Bd 210 q ∧ Bd 210 r ∧ Bd 210 s := by
  have := h.p1; have := h.p2; have := h.q1; have := h.q2; have := h.r1; have := h.r2; have := h.s1; have := h.s2
  exact ⟨.of (by omega), .of (by omega), .of (by omega), .of (by omega)⟩
theorem pow4_le2 (m : Nat) (h : m ≤ 100) : (4 : Int) ^ m ≤ 2 ^ 200 := by
  have : (4 : Int) ^ m ≤ 4 ^ 100 := by
    have := Nat.pow_le_pow_right (n := 4) (by omega) h
    exact_mod_cast this
  have e : (4 : Int) ^ 100 = 2 ^ 200 := by decide
  omega
theorem pl_free {x : Sl} (h : plainSl (some x)) : freeSl (some x) := by
  cases x with
  | own m ds => exact False.elim h
  | _ => trivial
theorem atI_last (l : List D) (d : D) : atI (l ++ [d]) (-1) = some d := by
  have e : ixN (l ++ [d]).length (-1) = some l.length := by
    unfold ixN
    simp
    omega
  unfold atI
  rw [e]
  simp
theorem shStr {x : Str} (h : SeqAt.shaped (.str x) = true) : x = x := rfl
theorem o_eqSt {x y : Str} {FB : Bool → Prop} (h : SeqAt.shaped (.str x) = true) (e : x = y) (q : FB true) : wCmp .eq (.str x) (.str y) FB := by
  subst e
  refine o_eq ⟨h, h⟩ ?_
  rw [SeqAt.eqv_refl _ (SeqAt.canLay_of_shaped h)]
  exact q
theorem o_neSt {x y : Str} {FB : Bool → Prop} (h : SeqAt.shaped (.str x) = true) (e : x = y) (q : FB false) : wCmp .ne (.str x) (.str y) FB := by
  subst e
  refine o_ne ⟨h, h⟩ ?_
  rw [SeqAt.eqv_refl _ (SeqAt.canLay_of_shaped h)]
  exact q
end DL

set_option Elab.async false
set_option linter.all false
set_option maxRecDepth 100000
set_option maxHeartbeats 4000000
/-! DLt: what is wanted may be weakened; so a part may be walked by itself. -/
namespace DL
open PySem PySem.Spec PyProof.Rows L2
def Mo {α : Type} (w : En → (α → En → Prop) → Prop) : Prop := ∀ env Q Q', (∀ x e, Q x e → Q' x e) → w env Q → w env Q'
def MoC (cl : Cl) : Prop := ∀ f args Q Q', (∀ r o, Q r o → Q' r o) → cl f args Q → cl f args Q'
theorem stp_mo {p q : Prop} (h : p → q) (x : stp p) : stp q := stp_of (h (stp_get x))
theorem oP_mo {α : Type} {o : Option α} {P Q : α → Prop} (h : ∀ x, P x → Q x) : oP o P → oP o Q := by
  cases o with
  | none => exact id
  | some x => exact h x
theorem brB_mo {k : Bool} {a b a' b' : Prop} (h1 : a → a') (h2 : b → b') : brB k a b → brB k a' b' := by
  unfold brB
  cases k <;> simp <;> assumption
theorem wBin_mo {o : Bop} {x y : D} {Q Q' : Sl → Prop} (h : ∀ r, Q r → Q' r) (w : wBin o x y Q) : wBin o x y Q' := by
  cases o <;> cases x <;> first | (cases w; done) | (cases y <;> first | (cases w; done) | exact h _ w | exact ⟨w.1, h _ w.2⟩)
theorem wCmp_mo {o : Cop} {x y : D} {Q Q' : Bool → Prop} (h : ∀ r, Q r → Q' r) (w : wCmp o x y Q) : wCmp o x y Q' := by
  cases o
  case eq => exact ⟨w.1, h _ w.2⟩
  case ne => exact ⟨w.1, h _ w.2⟩
  case lt =>
    cases x <;> first | (cases w; done) | (cases y <;> first | (cases w; done) | exact h _ w | exact ⟨w.1, oP_mo h w.2⟩)
  case le => cases x <;> first | (cases w; done) | (cases y <;> first | (cases w; done) | exact h _ w)
  case gt => cases x <;> first | (cases w; done) | (cases y <;> first | (cases w; done) | exact h _ w)
  case ge => cases x <;> first | (cases w; done) | (cases y <;> first | (cases w; done) | exact h _ w)
  case inn => cases y <;> first | (cases w; done) | exact ⟨w.1, h _ w.2⟩
  case nin => cases y <;> first | (cases w; done) | exact ⟨w.1, h _ w.2⟩
theorem wIs_mo {x d : D} {Q Q' : Bool → Prop} (h : ∀ r, Q r → Q' r) (w : wIs x d Q) : wIs x d Q' := by
  cases d <;> first | (cases x <;> first | (cases w; done) | exact h _ w) | (cases w; done)
theorem tru_mo {x : D} {Q Q' : Bool → Prop} (h : ∀ r, Q r → Q' r) (w : tru x Q) : tru x Q' := by
  cases x <;> first | (cases w; done) | exact h _ w | exact ⟨w.1, h _ w.2⟩
theorem wBest_mo {f : D → List D → D} {ds : List D} {Q Q' : D → Prop} (h : ∀ r, Q r → Q' r) (w : wBest f ds Q) : wBest f ds Q' := by
  cases ds with
  | nil => cases w
  | cons x xs => exact ⟨w.1, h _ w.2⟩
theorem wBi1_mo {b : Bi} {x : D} {Q Q' : Sl → Prop} (h : ∀ r, Q r → Q' r) (w : wBi1 b x Q) : wBi1 b x Q' := by
  cases b <;> cases x <;> first
    | (cases w; done)
    | exact h _ w
    | exact wBest_mo (fun d => h _) w
    | (rcases w with ⟨ns, h1, h2, q⟩ | q; exact .inl ⟨ns, h1, h2, fun m a b => h _ (q m a b)⟩; exact .inr (wBest_mo (fun d => h _) q))
    | (rcases w with ⟨ns, h1, q⟩ | ⟨so, q⟩ | ⟨so, q⟩; exact .inl ⟨ns, h1, fun m a b => h _ (q m a b)⟩; exact .inr (.inl ⟨so, fun m a b => h _ (q m a b)⟩); exact .inr (.inr ⟨so, h _ q⟩))
    | (obtain ⟨ns, h1, h2, q⟩ := w; exact ⟨ns, h1, h2, fun m a b => h _ (q m a b)⟩)
    | (obtain ⟨ns, h1, q⟩ := w; exact ⟨ns, h1, fun m a b => h _ (q m a b)⟩)
    | (obtain ⟨ns, h1, q⟩ := w; exact ⟨ns, h1, h _ q⟩)
    | exact ⟨w.1, h _ w.2⟩
    | exact ⟨w.1, fun m a b => h _ (w.2 m a b)⟩
theorem wBi2_mo {b : Bi} {x y : D} {Q Q' : Sl → Prop} (h : ∀ r, Q r → Q' r) (w : wBi2 b x y Q) : wBi2 b x y Q' := by
  cases b <;> cases x <;> first | (cases w; done) | (cases y <;> first | (cases w; done) | exact h _ w)
theorem wIx_mo {x k : D} {Q Q' : Sl → Prop} (h : ∀ r, Q r → Q' r) (w : wIx x k Q) : wIx x k Q' := by
  cases x <;> first | (cases w; done) | (cases k <;> first | (cases w; done) | exact oP_mo (fun d => h _) w)
theorem wSl_mo {x : D} {lo hi : Option Int} {Q Q' : Sl → Prop} (h : ∀ r, Q r → Q' r) (w : wSl x lo hi Q) : wSl x lo hi Q' := by
  cases x <;> first | (cases w; done) | exact h _ w
theorem wRev_mo {x : D} {Q Q' : Sl → Prop} (h : ∀ r, Q r → Q' r) (w : wRev x Q) : wRev x Q' := by
  cases x <;> first | (cases w; done) | exact h _ w
theorem opD_mo {w : WE} (m : Mo w) : Mo (opD w) := fun env Q Q' h x => m _ _ _ (fun r e => oP_mo fun d => h _ _) x
theorem opO_mo (e : E) {w : WE} (m : Mo w) : Mo (opO e w) := by
  intro env Q Q' h x
  cases e with
  | v i => exact ⟨x.1, h _ _ x.2⟩
  | _ => exact m _ _ _ (fun r e => oP_mo fun d => h _ _) x
mutual
theorem bindT_mo : ∀ (t : Tg) {d : D} {env : En} {Q Q' : En → Prop}, (∀ e, Q e → Q' e) → bindT t d env Q → bindT t d env Q'
  | .n i, _, _, _, _, h, x => ⟨x.1, h _ x.2⟩
  | .t ts, d, _, _, _, h, x => by
    cases d <;> first | (cases x; done) | exact bindTs_mo ts h x
theorem bindTs_mo : ∀ (ts : List Tg) {ds : List D} {env : En} {Q Q' : En → Prop}, (∀ e, Q e → Q' e) → bindTs ts ds env Q → bindTs ts ds env Q'
  | [], [], _, _, _, h, x => h _ x
  | [], _ :: _, _, _, _, _, x => by cases x
  | _ :: _, [], _, _, _, _, x => by cases x
  | t :: ts, d :: ds, _, _, _, h, x => bindT_mo t (fun e => bindTs_mo ts h) x
end
theorem bindMo (g : Tg) : ∀ (d : D) (env : En) (Q Q' : En → Prop), (∀ e, Q e → Q' e) → bindT g d env Q → bindT g d env Q' := fun _ _ _ _ h x => bindT_mo g h x
theorem wComp_mo {st : En → Prop} {bd : D → En → (En → Prop) → Prop} {t : WB} {el : WD} {own : List Nat} (hb : ∀ d env Q Q', (∀ e, Q e → Q' e) → bd d env Q → bd d env Q') (ht : Mo t) (he : Mo el) : ∀ {l acc : List D} {env : En} {Q Q' : List D → En → Prop}, (∀ a e, Q a e → Q' a e) → wComp st bd t el own l acc env Q → wComp st bd t el own l acc env Q'
  | [], _, _, _, _, h, x => ⟨x.1, h _ _ x.2⟩
  | d :: l, acc, env, Q, Q', h, x => ⟨x.1, hb _ _ _ _ (fun e1 => ht _ _ _ fun c e2 => brB_mo (he _ _ _ fun d e3 y => ⟨y.1, wComp_mo hb ht he h y.2⟩) (wComp_mo hb ht he h)) x.2⟩
theorem vB_mo {w : WB} (m : Mo w) : Mo (vB w) := by
  intro env Q Q' h x
  unfold vB at x ⊢
  exact m _ _ _ (fun k e => h _ _) x
theorem bV_mo {w : WE} (m : Mo w) : Mo (bV w) := by
  intro env Q Q' h x
  unfold bV at x ⊢
  exact m _ _ _ (fun r e => oP_mo fun d => tru_mo fun k => h _ _) x
section
variable {a b c : WH}
theorem mV_mo {i : Nat} : Mo (mV i) := by
  intro env Q Q' h x
  unfold mV at x ⊢
  split at x <;> first | exact h _ _ x | cases x
theorem mBin_mo {o : Bop} (ma : Mo a) (mb : Mo b) : Mo (mBin o a b) := by
  intro env Q Q' h x
  unfold mBin at x ⊢
  exact ma _ _ _ (fun h1 e1 => mb _ _ _ fun h2 e2 => oP_mo fun u => oP_mo fun v => wBin_mo fun r => h _ _) x
theorem mNeg_mo {a : WD} (ma : Mo a) : Mo (mNeg a) := by
  intro env Q Q' h x
  unfold mNeg at x ⊢
  exact ma _ _ _ (fun u e1 => oP_mo fun i => h _ _) x
theorem mCmp_mo {o : Cop} (ma : Mo a) (mb : Mo b) : Mo (mCmp o a b) := by
  intro env Q Q' h x
  unfold mCmp at x ⊢
  exact ma _ _ _ (fun h1 e1 => mb _ _ _ fun h2 e2 => oP_mo fun u => oP_mo fun v => wCmp_mo fun r => h _ _) x
theorem mChain_mo {o o' : Cop} (ma : Mo a) (mb : Mo b) (mc : Mo c) : Mo (mChain o o' a b c) := by
  intro env Q Q' h x
  unfold mChain at x ⊢
  exact ma _ _ _ (fun h1 e1 => mb _ _ _ fun h2 e2 => oP_mo fun u => oP_mo fun v => wCmp_mo fun r => brB_mo (mc _ _ _ fun h3 e3 => oP_mo fun u => oP_mo fun v => wCmp_mo fun r => h _ _) (h _ _)) x
theorem mChain3_mo {o o' o2 : Cop} {d : WH} (ma : Mo a) (mb : Mo b) (mc : Mo c) (md : Mo d) : Mo (mChain3 o o' o2 a b c d) := by
  intro env Q Q' h x
  unfold mChain3 at x ⊢
  exact ma _ _ _ (fun h1 e1 => mb _ _ _ fun h2 e2 => oP_mo fun u => oP_mo fun v => wCmp_mo fun r => brB_mo (mc _ _ _ fun h3 e3 => oP_mo fun u => oP_mo fun v => wCmp_mo fun r => brB_mo (md _ _ _ fun h4 e4 => oP_mo fun u => oP_mo fun v => wCmp_mo fun r => h _ _) (h _ _)) (h _ _)) x
theorem mIs_mo {n : Bool} {d : D} (ma : Mo a) : Mo (mIs n a d) := by
  intro env Q Q' h x
  unfold mIs at x ⊢
  exact ma _ _ _ (fun h1 e1 => oP_mo fun u => wIs_mo fun r => h _ _) x
theorem mAnd_mo {a : WD} {b : WE} (ma : Mo a) (mb : Mo b) : Mo (mAnd a b) := by
  intro env Q Q' h x
  unfold mAnd at x ⊢
  exact ma _ _ _ (fun u e1 => tru_mo fun k => brB_mo (mb _ _ _ h) (h _ _)) x
theorem mOr_mo {a : WD} {b : WE} (ma : Mo a) (mb : Mo b) : Mo (mOr a b) := by
  intro env Q Q' h x
  unfold mOr at x ⊢
  exact ma _ _ _ (fun u e1 => tru_mo fun k => brB_mo (h _ _) (mb _ _ _ h)) x
theorem mNot_mo (ma : Mo a) : Mo (mNot a) := by
  intro env Q Q' h x
  unfold mNot at x ⊢
  exact ma _ _ _ (fun h1 e1 => oP_mo fun u => tru_mo fun r => h _ _) x
theorem mIf_mo {t : WB} {a b : WE} (mt : Mo t) (ma : Mo a) (mb : Mo b) : Mo (mIf t a b) := by
  intro env Q Q' h x
  unfold mIf at x ⊢
  exact mt _ _ _ (fun k e1 => brB_mo (ma _ _ _ h) (mb _ _ _ h)) x
theorem mTup_mo {es : En → (List D → En → Prop) → Prop} (m : Mo es) : Mo (mTup es) := by
  intro env Q Q' h x
  unfold mTup at x ⊢
  exact m _ _ _ (fun ds e y => ⟨y.1, h _ _ y.2⟩) x
theorem mLst_mo {es : En → (List D → En → Prop) → Prop} (m : Mo es) : Mo (mLst es) := by
  intro env Q Q' h x
  unfold mLst at x ⊢
  exact m _ _ _ (fun ds e y => ⟨y.1, h _ _ y.2⟩) x
theorem mIx_mo {i : WD} (ma : Mo a) (mi : Mo i) : Mo (mIx a i) := by
  intro env Q Q' h x
  unfold mIx at x ⊢
  exact ma _ _ _ (fun h1 e1 => mi _ _ _ fun k e2 => oP_mo fun u => stp_mo (wIx_mo fun r => h _ _)) x
theorem mSl_mo {lo hi : En → (Option Int → En → Prop) → Prop} (ma : Mo a) (ml : Mo lo) (mh : Mo hi) : Mo (mSl a lo hi) := by
  intro env Q Q' h x
  unfold mSl at x ⊢
  exact ma _ _ _ (fun h1 e1 => ml _ _ _ fun l e2 => mh _ _ _ fun u e3 => oP_mo fun v => wSl_mo fun r => h _ _) x
theorem mRev_mo (ma : Mo a) : Mo (mRev a) := by
  intro env Q Q' h x
  unfold mRev at x ⊢
  exact ma _ _ _ (fun h1 e1 => oP_mo fun u => wRev_mo fun r => h _ _) x
theorem mIsi_mo {t : Ty} (ma : Mo a) : Mo (mIsi a t) := by
  intro env Q Q' h x
  unfold mIsi at x ⊢
  exact ma _ _ _ (fun h1 e1 => oP_mo fun u y => ⟨y.1, h _ _ y.2⟩) x
theorem mBi1_mo {b : Bi} {a : WH} (m : Mo a) : Mo (mBi1 b a) := by
  intro env Q Q' h x
  unfold mBi1 at x ⊢
  refine m _ _ _ (fun h1 e1 y => ?_) x
  cases b <;> first
    | exact oP_mo (fun d => wBi1_mo fun r => h _ _) y
    | (revert y
       try dsimp only
       cases scrAt e1 h1 with
       | none => exact fun y => oP_mo (fun d => wBi1_mo fun r => h _ _) y
       | some ns => exact fun y => h _ _ y)
theorem mBi2_mo {o : Bi} (ma : Mo a) (mb : Mo b) : Mo (mBi2 o a b) := by
  intro env Q Q' h x
  unfold mBi2 at x ⊢
  exact ma _ _ _ (fun h1 e1 => mb _ _ _ fun h2 e2 => oP_mo fun u => oP_mo fun v => wBi2_mo fun r => h _ _) x
theorem mLc_mo {el : WD} {g : Tg} {it : En → (Wk → En → Prop) → Prop} {t : WB} {own : List Nat} (me : Mo el) (mi : Mo it) (mt : Mo t) : Mo (mLc el g it t own) := by
  intro env Q Q' h x
  unfold mLc at x ⊢
  exact mi _ _ _ (fun wk e1 y => ⟨y.1, stp_mo (wComp_mo (bindMo g) mt me fun a e2 => h _ _) y.2⟩) x
end
section
variable {cl : Cl} {refs : Nat → List Bool} (hc : MoC cl)
include hc
theorem mCall_mo {f : Nat} {as : En → (List Ar → En → Prop) → Prop} (m : Mo as) : Mo (mCall cl f as) := by
  intro env Q Q' h x
  unfold mCall at x ⊢
  exact m _ _ _ (fun a e y => ⟨y.1, oP_mo (fun args z => stp_mo (hc _ _ _ _ fun r o => h _ _) z) y.2⟩) x
set_option maxHeartbeats 8000000
mutual
theorem wE_mo : ∀ e : E, Mo (wE cl refs e)
  | .c d => fun env Q Q' h x => h _ _ x
  | .g _ d => fun env Q Q' h x => h _ _ x
  | .v i => mV_mo
  | .bin o a b => mBin_mo (opO_mo a (wE_mo a)) (opO_mo b (wE_mo b))
  | .neg a => mNeg_mo (opD_mo (wE_mo a))
  | .cmp o a b => vB_mo (mCmp_mo (opO_mo a (wE_mo a)) (opO_mo b (wE_mo b)))
  | .chain o o' a b c => vB_mo (mChain_mo (opO_mo a (wE_mo a)) (opO_mo b (wE_mo b)) (opO_mo c (wE_mo c)))
  | .chain3 o o' o2 a b c d => vB_mo (mChain3_mo (opO_mo a (wE_mo a)) (opO_mo b (wE_mo b)) (opO_mo c (wE_mo c)) (opO_mo d (wE_mo d)))
  | .isc n a d => vB_mo (mIs_mo (opO_mo a (wE_mo a)))
  | .and a b => mAnd_mo (opD_mo (wE_mo a)) (wE_mo b)
  | .or a b => mOr_mo (opD_mo (wE_mo a)) (wE_mo b)
  | .not a => mNot_mo (opO_mo a (wE_mo a))
  | .ite t a b => mIf_mo (wT_mo t) (wE_mo a) (wE_mo b)
  | .tup es => mTup_mo (wEs_mo es)
  | .lst es => mLst_mo (wEs_mo es)
  | .ix a i => mIx_mo (opO_mo a (wE_mo a)) (opD_mo (wE_mo i))
  | .sl a lo hi => mSl_mo (opO_mo a (wE_mo a)) (wEo_mo lo) (wEo_mo hi)
  | .rev a => mRev_mo (opO_mo a (wE_mo a))
  | .isi a t => vB_mo (mIsi_mo (opO_mo a (wE_mo a)))
  | .bi1 b a => mBi1_mo (opO_mo a (wE_mo a))
  | .bi2 b a a' => mBi2_mo (opO_mo a (wE_mo a)) (opO_mo a' (wE_mo a'))
  | .call f es => mCall_mo hc (wAs_mo (refs f) es)
  | .lc e g it t own => mLc_mo (opD_mo (wE_mo e)) (wIt_mo it) (wTo_mo t)
theorem wT_mo : ∀ e : E, Mo (wT cl refs e)
  | .and a b => fun env Q Q' h x => wT_mo a _ _ _ (fun k e1 => brB_mo (wT_mo b _ _ _ h) (h _ _)) x
  | .or a b => fun env Q Q' h x => wT_mo a _ _ _ (fun k e1 => brB_mo (h _ _) (wT_mo b _ _ _ h)) x
  | .not a => fun env Q Q' h x => wT_mo a _ _ _ (fun k e1 => h _ _) x
  | .cmp o a b => mCmp_mo (opO_mo a (wE_mo a)) (opO_mo b (wE_mo b))
  | .chain o o' a b c => mChain_mo (opO_mo a (wE_mo a)) (opO_mo b (wE_mo b)) (opO_mo c (wE_mo c))
  | .chain3 o o' o2 a b c d => mChain3_mo (opO_mo a (wE_mo a)) (opO_mo b (wE_mo b)) (opO_mo c (wE_mo c)) (opO_mo d (wE_mo d))
  | .isc n a d => mIs_mo (opO_mo a (wE_mo a))
  | .v i => fun env Q Q' h x => oP_mo (fun u => tru_mo fun k => h _ _) x
  | .isi a t => bV_mo (vB_mo (mIsi_mo (opO_mo a (wE_mo a))))
  | .bi1 b a => bV_mo (mBi1_mo (opO_mo a (wE_mo a)))
  | .ix a i => bV_mo (mIx_mo (opO_mo a (wE_mo a)) (opD_mo (wE_mo i)))
  | .call f es => bV_mo (mCall_mo hc (wAs_mo (refs f) es))
  | .bin o a b => bV_mo (mBin_mo (opO_mo a (wE_mo a)) (opO_mo b (wE_mo b)))
  | .c _ => fun env Q Q' h x => False.elim x
  | .g _ _ => fun env Q Q' h x => False.elim x
  | .neg _ => fun env Q Q' h x => False.elim x
  | .ite _ _ _ => fun env Q Q' h x => False.elim x
  | .tup _ => fun env Q Q' h x => False.elim x
  | .lst _ => fun env Q Q' h x => False.elim x
  | .sl _ _ _ => fun env Q Q' h x => False.elim x
  | .rev _ => fun env Q Q' h x => False.elim x
  | .bi2 _ _ _ => fun env Q Q' h x => False.elim x
  | .lc _ _ _ _ _ => fun env Q Q' h x => False.elim x
theorem wEs_mo : ∀ es : Es, Mo (wEs cl refs es)
  | .nil => fun env Q Q' h x => h _ _ x
  | .cons e es => fun env Q Q' h x => opD_mo (wE_mo e) env (fun d e1 => wEs cl refs es e1 fun ds e2 => Q (d :: ds) e2) (fun d e1 => wEs cl refs es e1 fun ds e2 => Q' (d :: ds) e2) (fun d e1 => wEs_mo es _ _ _ fun ds e2 => h _ _) x
theorem wEo_mo : ∀ es : Eo, Mo (wEo cl refs es)
  | .non => fun env Q Q' h x => h _ _ x
  | .som e => fun env Q Q' h x => opD_mo (wE_mo e) env (fun d e1 => oP (intD d) fun i => Q (some i) e1) (fun d e1 => oP (intD d) fun i => Q' (some i) e1) (fun d e1 => oP_mo fun i => h _ _) x
theorem wTo_mo : ∀ es : Eo, Mo (wTo cl refs es)
  | .non => fun env Q Q' h x => h _ _ x
  | .som e => wT_mo e
theorem wIt_mo : ∀ it : It, Mo (wIt cl refs it)
  | .e e => fun env Q Q' h x => opO_mo e (wE_mo e) env (fun h1 e1 => oP (wkOf e1 h1) fun wk => Q wk e1) (fun h1 e1 => oP (wkOf e1 h1) fun wk => Q' wk e1) (fun h1 e1 => oP_mo fun wk => h _ _) x
  | .rng1 a => fun env Q Q' h x => opD_mo (wE_mo a) env (fun d e1 => oP (intD d) fun j => (-(2 ^ 62) ≤ j ∧ j < 2 ^ 62) ∧ Q (.items (rngD 0 j.toNat)) e1) (fun d e1 => oP (intD d) fun j => (-(2 ^ 62) ≤ j ∧ j < 2 ^ 62) ∧ Q' (.items (rngD 0 j.toNat)) e1) (fun d e1 => oP_mo fun j y => ⟨y.1, h _ _ y.2⟩) x
  | .rng2 a b => fun env Q Q' h x => opD_mo (wE_mo a) env (fun d e1 => opD (wE cl refs b) e1 fun d' e2 => oP (intD d) fun i => oP (intD d') fun j => (-(2 ^ 62) ≤ i ∧ i < 2 ^ 62 ∧ -(2 ^ 62) ≤ j ∧ j < 2 ^ 62) ∧ Q (.items (rngD i (j - i).toNat)) e2) (fun d e1 => opD (wE cl refs b) e1 fun d' e2 => oP (intD d) fun i => oP (intD d') fun j => (-(2 ^ 62) ≤ i ∧ i < 2 ^ 62 ∧ -(2 ^ 62) ≤ j ∧ j < 2 ^ 62) ∧ Q' (.items (rngD i (j - i).toNat)) e2) (fun d e1 => opD_mo (wE_mo b) _ _ _ fun d' e2 => oP_mo fun i => oP_mo fun j y => ⟨y.1, h _ _ y.2⟩) x
  | .zip a b => fun env Q Q' h x => opD_mo (wE_mo a) env (fun d e1 => opD (wE cl refs b) e1 fun d' e2 => wZip d d' e2 Q) (fun d e1 => opD (wE cl refs b) e1 fun d' e2 => wZip d d' e2 Q') (fun d e1 => opD_mo (wE_mo b) _ _ _ fun d' e2 y => by
    cases d <;> first | (cases y; done) | (cases d' <;> first | (cases y; done) | exact h _ _ y)) x
  | .enum a => fun env Q Q' h x => opD_mo (wE_mo a) env (fun d e1 => wEnu d e1 Q) (fun d e1 => wEnu d e1 Q') (fun d e1 y => by
    cases d <;> first | (cases y; done) | exact h _ _ y) x
theorem wAs_mo : ∀ (rs : List Bool) (es : Es), Mo (wAs cl refs rs es)
  | [], .nil => fun env Q Q' h x => ⟨x.1, h _ _ x.2⟩
  | true :: _, .nil => fun env Q Q' h x => ⟨x.1, h _ _ x.2⟩
  | false :: _, .nil => fun env Q Q' h x => ⟨x.1, h _ _ x.2⟩
  | true :: rs, .cons e es => fun env Q Q' h x => by
    cases e with
    | v i => exact ⟨x.1, wAs_mo rs es env (fun as e2 => Q (.var i :: as) e2) (fun as e2 => Q' (.var i :: as) e2) (fun as e2 => h _ _) x.2⟩
    | _ => exact False.elim x
  | false :: rs, .cons e es => fun env Q Q' h x => wE_mo e env (fun r e1 => oP (argSl r) fun s => wAs cl refs rs es e1 fun as e2 => Q (.val s :: as) e2) (fun r e1 => oP (argSl r) fun s => wAs cl refs rs es e1 fun as e2 => Q' (.val s :: as) e2) (fun r e1 => oP_mo fun s => wAs_mo rs es _ _ _ fun as e2 => h _ _) x
  | [], .cons _ _ => fun env Q Q' h x => False.elim x
end
theorem wRs_mo : ∀ es : Es, Mo (wRs cl refs es)
  | .nil => fun env Q Q' h x => h _ _ x
  | .cons e es => fun env Q Q' h x => wE_mo hc e env (fun r e1 => wRs cl refs es e1 fun rs e2 => Q (r :: rs) e2) (fun r e1 => wRs cl refs es e1 fun rs e2 => Q' (r :: rs) e2) (fun r e1 => wRs_mo es _ _ _ fun rs e2 => h _ _) x
/-- a part by itself -/
theorem wE_cut {e : E} {env : En} {Q : QK} (P : QK) (h : wE cl refs e env P) (q : ∀ r e1, P r e1 → Q r e1) : wE cl refs e env Q := wE_mo hc e _ _ _ q h
theorem wT_cut {e : E} {env : En} {Q : Bool → En → Prop} (P : Bool → En → Prop) (h : wT cl refs e env P) (q : ∀ r e1, P r e1 → Q r e1) : wT cl refs e env Q := wT_mo hc e _ _ _ q h
end
/-! ### statements -/
def LeK (K K' : AK) : Prop := (∀ e, K.nx e → K'.nx e) ∧ (∀ r e, K.rt r e → K'.rt r e) ∧ (∀ e, K.bk e → K'.bk e) ∧ ∀ e, K.ct e → K'.ct e
def MoS (w : En → AK → Prop) : Prop := ∀ env K K', LeK K K' → w env K → w env K'
theorem LeK.refl (K : AK) : LeK K K := ⟨fun _ h => h, fun _ _ h => h, fun _ h => h, fun _ h => h⟩
theorem wLoop_mo {t : WB} {b : En → AK → Prop} (ht : Mo t) (hb : MoS b) : ∀ {n : Nat}, MoS (wLoop t b n)
  | 0 => fun env K K' h x => False.elim x
  | n + 1 => fun env K K' h x => ht env (fun c e1 => brB c (b e1 ⟨fun e2 => wLoop t b n e2 K, K.rt, K.nx, fun e2 => wLoop t b n e2 K⟩) (K.nx e1)) (fun c e1 => brB c (b e1 ⟨fun e2 => wLoop t b n e2 K', K'.rt, K'.nx, fun e2 => wLoop t b n e2 K'⟩) (K'.nx e1))
    (fun c e1 => brB_mo (hb e1 ⟨fun e2 => wLoop t b n e2 K, K.rt, K.nx, fun e2 => wLoop t b n e2 K⟩ ⟨fun e2 => wLoop t b n e2 K', K'.rt, K'.nx, fun e2 => wLoop t b n e2 K'⟩ ⟨fun e => wLoop_mo ht hb e K K' h, h.2.1, h.1, fun e => wLoop_mo ht hb e K K' h⟩) (h.1 _)) x
theorem wFor_mo {st : En → Prop} {bd : D → En → (En → Prop) → Prop} {b : En → AK → Prop} (hd : ∀ d env Q Q', (∀ e, Q e → Q' e) → bd d env Q → bd d env Q') (hb : MoS b) : ∀ {l : List D}, MoS (wFor st bd b l)
  | [] => fun env K K' h x => ⟨x.1, h.1 _ x.2⟩
  | d :: l => fun env K K' h x => ⟨x.1, hd d env (fun e1 => b e1 ⟨fun e2 => wFor st bd b l e2 K, fun r e2 => st e2 ∧ K.rt r e2, fun e2 => st e2 ∧ K.nx e2, fun e2 => wFor st bd b l e2 K⟩) (fun e1 => b e1 ⟨fun e2 => wFor st bd b l e2 K', fun r e2 => st e2 ∧ K'.rt r e2, fun e2 => st e2 ∧ K'.nx e2, fun e2 => wFor st bd b l e2 K'⟩)
    (fun e1 => hb e1 _ _ ⟨fun e => wFor_mo hd hb e K K' h, fun r e y => ⟨y.1, h.2.1 _ _ y.2⟩, fun e y => ⟨y.1, h.1 _ y.2⟩, fun e => wFor_mo hd hb e K K' h⟩) x.2⟩
section
variable {cl : Cl} {refs : Nat → List Bool} (hc : MoC cl)
include hc
theorem mRet_mo (e : E) : MoS (mRet e (wE cl refs e)) := by
  intro env K K' h x
  by_cases he : ∃ i, e = .v i
  · obtain ⟨i, rfl⟩ := he
    have x' : (match env[i]? with | some (.own .free ds) => K.rt (.own .free ds) (env.set i .no) | _ => mV i env K.rt) := x
    show (match env[i]? with | some (.own .free ds) => K'.rt (.own .free ds) (env.set i .no) | _ => mV i env K'.rt)
    split at x'
    · exact h.2.1 _ _ x'
    · exact mV_mo _ _ _ h.2.1 x'
  · have e1 : ∀ K : AK, mRet e (wE cl refs e) env K = wE cl refs e env K.rt := fun K => by
      unfold mRet
      split
      · exact absurd ⟨_, rfl⟩ he
      · rfl
    rw [e1] at x ⊢
    exact wE_mo hc e _ _ _ h.2.1 x
omit hc in
theorem mFor_mo {g : Tg} {it : En → (Wk → En → Prop) → Prop} {b : En → AK → Prop} (mi : Mo it) (mb : MoS b) : MoS (mFor g it b) := by
  intro env K K' h x
  unfold mFor at x ⊢
  exact mi _ _ _ (fun wk e1 => stp_mo (wFor_mo (bindMo g) mb (lockW e1 wk) ⟨fun e2 => K.nx (unlockW e2 wk), fun r e2 => K.rt r (unlockW e2 wk), fun _ => False, fun _ => False⟩ ⟨fun e2 => K'.nx (unlockW e2 wk), fun r e2 => K'.rt r (unlockW e2 wk), fun _ => False, fun _ => False⟩ ⟨fun e => h.1 _, fun r e => h.2.1 _ _, fun _ h => h, fun _ h => h⟩)) x
mutual
theorem wS_mo : ∀ s : S, MoS (wS cl refs s)
  | .asg g e => fun env K K' h x => wE_mo hc e _ _ _ (fun r e1 y => by
    cases g with
    | n i => exact ⟨y.1, h.1 _ y.2⟩
    | t ts => exact oP_mo (fun d => bindT_mo _ h.1) y) x
  | .par is es => fun env K K' h x => wRs_mo hc es _ _ _ (fun rs e1 y => ⟨y.1, y.2.1, y.2.2.1, h.1 _ y.2.2.2⟩) x
  | .set i k e => fun env K K' h x => by
    have x' : mSet i (opD (wE cl refs k)) (opD (wE cl refs e)) env K := x
    show mSet i (opD (wE cl refs k)) (opD (wE cl refs e)) env K'
    unfold mSet at x' ⊢
    split at x'
    · rename_i q
      refine opD_mo (wE_mo hc e) _ _ _ (fun d e1 => opD_mo (wE_mo hc k) _ _ _ fun kk e2 => oP_mo fun j y => ?_) x'
      split at y
      · exact ⟨y.1, oP_mo (fun n => h.1 _) y.2⟩
      · cases y
    · cases x'
  | .app i e => fun env K K' h x => by
    have x' : mApp i (opD (wE cl refs e)) env K := x
    show mApp i (opD (wE cl refs e)) env K'
    unfold mApp at x' ⊢
    split at x'
    · rename_i q
      refine opD_mo (wE_mo hc e) _ _ _ (fun d e1 y => ?_) x'
      split at y
      · exact ⟨y.1, y.2.1, h.1 _ y.2.2⟩
      · cases y
    · cases x'
  | .ex e => fun env K K' h x => wE_mo hc e _ _ _ (fun r e1 => h.1 _) x
  | .ret e => mRet_mo hc e
  | .ret0 => fun env K K' h x => h.2.1 _ _ x
  | .ite t a b => fun env K K' h x => wT_mo hc t _ _ _ (fun k e1 => brB_mo (wSs_mo a _ _ _ h) (wSs_mo b _ _ _ h)) x
  | .whl t b => fun env K K' h x => stp_mo (fun ⟨n, y⟩ => ⟨n, wLoop_mo (wT_mo hc t) (wSs_mo b) _ _ _ h y⟩) x
  | .for g it b => mFor_mo (wIt_mo hc it) (wSs_mo b)
  | .pass => fun env K K' h x => h.1 _ x
  | .brk => fun env K K' h x => h.2.2.1 _ x
  | .cnt => fun env K K' h x => h.2.2.2 _ x
  | .stop => fun env K K' h x => False.elim x
theorem wSs_mo : ∀ s : Ss, MoS (wSs cl refs s)
  | .nil => fun env K K' h x => h.1 _ x
  | .cons s r => fun env K K' h x => wS_mo s env ⟨fun e1 => stp (wSs cl refs r e1 K), K.rt, K.bk, K.ct⟩ ⟨fun e1 => stp (wSs cl refs r e1 K'), K'.rt, K'.bk, K'.ct⟩ ⟨fun e => stp_mo (wSs_mo r e K K' h), h.2.1, h.2.2.1, h.2.2.2⟩ x
end
end
theorem wCall_mo {fns : List Fn} : ∀ k : Nat, MoC (wCall fns k)
  | 0 => fun f args Q Q' h x => False.elim x
  | k + 1 => fun f args Q Q' h x => oP_mo (fun c y => ⟨y.1, wSs_mo (wCall_mo k) c.body _ ⟨fun env => Q (.val .none) (outs c.refs env), fun r env => Q r (outs c.refs env), fun _ => False, fun _ => False⟩ ⟨fun env => Q' (.val .none) (outs c.refs env), fun r env => Q' r (outs c.refs env), fun _ => False, fun _ => False⟩ ⟨fun e => h _ _, fun r e => h _ _, fun _ h => h, fun _ h => h⟩ y.2⟩) x
section
variable {fns : List Fn} {k : Nat} {refs : Nat → List Bool} {env : En} {nx : En → Prop} {rt : QK} {bk ct : En → Prop} {Q : QK} {QB : Bool → En → Prop}
/-- a value made by itself: it is r, and the names stand as in e' -/
theorem cutE {e : E} (r : Sl) (e' : En) (h : wE (wCall fns k) refs e env fun r1 e1 => r1 = r ∧ e1 = e') (q : Q r e') : wE (wCall fns k) refs e env Q :=
  wE_cut (wCall_mo k) _ h fun r1 e1 ⟨h1, h2⟩ => by subst h1 h2; exact q
theorem cutT {e : E} (r : Bool) (e' : En) (h : wT (wCall fns k) refs e env fun r1 e1 => r1 = r ∧ e1 = e') (q : QB r e') : wT (wCall fns k) refs e env QB :=
  wT_cut (wCall_mo k) _ h fun r1 e1 ⟨h1, h2⟩ => by subst h1 h2; exact q
theorem cutE0 {e : E} (r : Sl) (h : wE (wCall fns k) refs e env fun r1 e1 => r1 = r ∧ e1 = env) (q : Q r env) : wE (wCall fns k) refs e env Q := cutE r env h q
theorem cutT0 {e : E} (r : Bool) (h : wT (wCall fns k) refs e env fun r1 e1 => r1 = r ∧ e1 = env) (q : QB r env) : wT (wCall fns k) refs e env QB := cutT r env h q
/-- a statement that just goes on, by itself -/
theorem cutS {s : S} (P : En → Prop) (h : wS (wCall fns k) refs s env ⟨P, rt, bk, ct⟩) (q : ∀ e, P e → nx e) : wS (wCall fns k) refs s env ⟨nx, rt, bk, ct⟩ :=
  wS_mo (wCall_mo k) s env ⟨P, rt, bk, ct⟩ ⟨nx, rt, bk, ct⟩ ⟨q, fun _ _ h => h, fun _ h => h, fun _ h => h⟩ h
end
/-! ### what is walked, item by item -/
theorem lv_nil {l : List D} (h : l = []) : l = [] := h
theorem lv_cons {l t t' : List D} {x x' : D} (h : l = x :: t) (hx : x = x') (ht : t = t') : l = x' :: t' := by subst hx ht; exact h
section
variable {st : En → Prop} {bd : D → En → (En → Prop) → Prop} {b : En → AK → Prop} {t : WB} {el : WD} {own : List Nat} {QL : List D → En → Prop} {xs xs' acc : List D} {env : En} {K : AK}
theorem wc_openLI {e' : En} (h : env = e') (hl : xs = xs') (q : wComp st bd t el own xs' acc e' QL) : stp (wComp st bd t el own (Wk.items xs).ds acc env QL) := by subst h hl; exact stp_of q
theorem wc_openLV {e' : En} {i : Nat} {m : Md} (h : env = e') (hl : xs = xs') (q : wComp st bd t el own xs' acc e' QL) : stp (wComp st bd t el own (Wk.var i m xs).ds acc env QL) := by subst h hl; exact stp_of q
theorem wf_openLI {e' : En} (h : env = e') (hl : xs = xs') (q : wFor st bd b xs' e' K) : stp (wFor st bd b (Wk.items xs).ds env K) := by subst h hl; exact stp_of q
theorem wf_openLV {e' : En} {i : Nat} {m : Md} (h : env = e') (hl : xs = xs') (q : wFor st bd b xs' e' K) : stp (wFor st bd b (Wk.var i m xs).ds env K) := by subst h hl; exact stp_of q
end
end DL

set_option Elab.async false
set_option linter.all false
set_option maxRecDepth 100000
set_option maxHeartbeats 4000000
/-! DMw: plain mathematics of the whole numbers of Gauss and of Eisenstein (g = true: Gauss). -/
namespace DL
open PySem PySem.Spec PyProof.Rows L2
structure Z2 where
  x : Int
  y : Int
namespace Z2
theorem ext' {a b : Z2} (h1 : a.x = b.x) (h2 : a.y = b.y) : a = b := by cases a; cases b; simp at h1 h2; simp [h1, h2]
def nrm : Bool → Z2 → Int
  | true, a => a.x * a.x + a.y * a.y
  | false, a => a.x * a.x - a.x * a.y + a.y * a.y
def mul : Bool → Z2 → Z2 → Z2
  | true, a, b => ⟨a.x * b.x - a.y * b.y, a.x * b.y + a.y * b.x⟩
  | false, a, b => ⟨a.x * b.x - a.y * b.y, a.x * b.y + a.y * b.x - a.y * b.y⟩
def mir : Bool → Z2 → Z2
  | true, a => ⟨a.x, 0 - a.y⟩
  | false, a => ⟨a.x - a.y, 0 - a.y⟩
def add (a b : Z2) : Z2 := ⟨a.x + b.x, a.y + b.y⟩
def sub (a b : Z2) : Z2 := ⟨a.x - b.x, a.y - b.y⟩
def zero : Z2 := ⟨0, 0⟩
def one : Z2 := ⟨1, 0⟩
variable {g : Bool} {a b c d u v : Z2}
theorem nrm_mul : nrm g (mul g a b) = nrm g a * nrm g b := by cases g <;> simp only [nrm, mul] <;> grind
theorem mul_comm' : mul g a b = mul g b a := by cases g <;> apply ext' <;> simp only [mul] <;> grind
theorem mul_assoc' : mul g (mul g a b) c = mul g a (mul g b c) := by cases g <;> apply ext' <;> simp only [mul] <;> grind
theorem mul_add' : mul g a (add b c) = add (mul g a b) (mul g a c) := by cases g <;> apply ext' <;> simp only [mul, add] <;> grind
theorem mul_sub' : mul g a (sub b c) = sub (mul g a b) (mul g a c) := by cases g <;> apply ext' <;> simp only [mul, sub] <;> grind
theorem add_mul' : mul g (add a b) c = add (mul g a c) (mul g b c) := by cases g <;> apply ext' <;> simp only [mul, add] <;> grind
theorem sub_mul' : mul g (sub a b) c = sub (mul g a c) (mul g b c) := by cases g <;> apply ext' <;> simp only [mul, sub] <;> grind
theorem one_mul' : mul g one a = a := by cases g <;> apply ext' <;> simp only [mul, one] <;> grind
theorem mul_one' : mul g a one = a := by cases g <;> apply ext' <;> simp only [mul, one] <;> grind
theorem zero_mul' : mul g zero a = zero := by cases g <;> apply ext' <;> simp only [mul, zero] <;> grind
theorem mul_zero' : mul g a zero = zero := by cases g <;> apply ext' <;> simp only [mul, zero] <;> grind
theorem mul_mir : mul g a (mir g a) = ⟨nrm g a, 0⟩ := by cases g <;> apply ext' <;> simp only [mul, mir, nrm] <;> grind
theorem nrm_mir : nrm g (mir g a) = nrm g a := by cases g <;> simp only [nrm, mir] <;> grind
theorem nrm_nn : 0 ≤ nrm g a := by
  cases g
  · have h1 := sqNN (2 * a.x - a.y)
    have h2 := sqNN a.y
    have e : 4 * nrm false a = (2 * a.x - a.y) * (2 * a.x - a.y) + 3 * (a.y * a.y) := by simp only [nrm]; grind
    omega
  · have h1 := sqNN a.x
    have h2 := sqNN a.y
    simp only [nrm]
    omega
theorem sq_zero {x : Int} (h : x * x = 0) : x = 0 := by
  rcases Int.mul_eq_zero.mp h with h | h <;> exact h
theorem nrm_zero (h : nrm g a = 0) : a = zero := by
  cases g
  · have h1 := sqNN (2 * a.x - a.y)
    have h2 := sqNN a.y
    have e : 4 * nrm false a = (2 * a.x - a.y) * (2 * a.x - a.y) + 3 * (a.y * a.y) := by simp only [nrm]; grind
    have y0 := sq_zero (x := a.y) (by omega)
    have x0 := sq_zero (x := 2 * a.x - a.y) (by omega)
    exact ext' (by show a.x = 0; omega) y0
  · have h1 := sqNN a.x
    have h2 := sqNN a.y
    simp only [nrm] at h
    exact ext' (sq_zero (by omega)) (sq_zero (by omega))
theorem nrm_pos (h : a ≠ zero) : 0 < nrm g a := by
  have h1 := nrm_nn (g := g) (a := a)
  have h2 : nrm g a ≠ 0 := fun q => h (nrm_zero q)
  omega
theorem nrm_z : nrm g zero = 0 := by cases g <;> rfl
/-- b is a multiple of a -/
def Dv (g : Bool) (a b : Z2) : Prop := ∃ c, b = mul g a c
theorem Dv.refl : Dv g a a := ⟨one, mul_one'.symm⟩
theorem Dv.trans (h : Dv g a b) (k : Dv g b c) : Dv g a c := by
  obtain ⟨d, rfl⟩ := h
  obtain ⟨e, rfl⟩ := k
  exact ⟨mul g d e, mul_assoc'⟩
theorem Dv.zero : Dv g a zero := ⟨Z2.zero, mul_zero'.symm⟩
theorem Dv.add (h : Dv g a b) (k : Dv g a c) : Dv g a (add b c) := by
  obtain ⟨d, rfl⟩ := h
  obtain ⟨e, rfl⟩ := k
  exact ⟨_, mul_add'.symm⟩
theorem Dv.sub (h : Dv g a b) (k : Dv g a c) : Dv g a (sub b c) := by
  obtain ⟨d, rfl⟩ := h
  obtain ⟨e, rfl⟩ := k
  exact ⟨_, mul_sub'.symm⟩
theorem Dv.mul (h : Dv g a b) : Dv g a (mul g b c) := by
  obtain ⟨d, rfl⟩ := h
  exact ⟨_, mul_assoc'⟩
theorem Dv.mul' (h : Dv g a b) : Dv g a (Z2.mul g c b) := by
  rw [mul_comm']
  exact h.mul
theorem Dv.times (h : Dv g a b) : Dv g (Z2.mul g a c) (Z2.mul g b c) := by
  obtain ⟨d, rfl⟩ := h
  exact ⟨d, by rw [mul_assoc', mul_assoc', mul_comm' (a := d)]⟩
theorem zero_dv (h : Dv g zero a) : a = zero := by
  obtain ⟨c, rfl⟩ := h
  exact zero_mul'
theorem mul_cancel (ha : a ≠ zero) (h : mul g a b = mul g a c) : b = c := by
  have h1 : nrm g (sub b c) = 0 := by
    have : mul g a (sub b c) = zero := by
      rw [mul_sub', h]
      exact ext' (by simp only [sub, zero]; omega) (by simp only [sub, zero]; omega)
    have e := nrm_mul (g := g) (a := a) (b := sub b c)
    rw [this, nrm_z] at e
    rcases Int.mul_eq_zero.mp e.symm with q | q
    · exact absurd (nrm_zero q) ha
    · exact q
  have h2 := nrm_zero h1
  have hx : (sub b c).x = 0 := by rw [h2]; rfl
  have hy : (sub b c).y = 0 := by rw [h2]; rfl
  simp only [sub] at hx hy
  exact ext' (by omega) (by omega)
/-- a unit -/
def isU (g : Bool) (u : Z2) : Prop := nrm g u = 1
theorem assoc_of (h : Dv g a b) (k : Dv g b a) (ha : a ≠ zero) : ∃ u, isU g u ∧ b = mul g u a := by
  obtain ⟨u, e1⟩ := h
  obtain ⟨v, e2⟩ := k
  refine ⟨u, ?_, by rw [e1]; exact mul_comm'⟩
  have e3 : mul g a (mul g u v) = mul g a one := by rw [mul_one', ← mul_assoc', ← e1, ← e2]
  have e4 := mul_cancel ha e3
  have e5 := nrm_mul (g := g) (a := u) (b := v)
  rw [e4] at e5
  have e6 : nrm g one = 1 := by cases g <;> rfl
  rw [e6] at e5
  have n1 := nrm_nn (g := g) (a := u)
  have n2 := nrm_nn (g := g) (a := v)
  unfold isU
  generalize nrm g u = p at *
  generalize nrm g v = q at *
  have hp : p ≠ 0 := by rintro rfl; omega
  have hq : q ≠ 0 := by rintro rfl; omega
  apply Classical.byContradiction
  intro hn
  have : 2 * 1 ≤ p * q := Int.mul_le_mul (by omega) (by omega) (by omega) (by omega)
  omega
/-- the chief one of the associates -/
def chiefP : Bool → Z2 → Prop
  | true, a => 0 < a.x ∧ 0 ≤ a.y
  | false, a => a.y < a.x ∧ 0 ≤ a.y
theorem unit_gauss {u : Z2} (h : isU true u) : u = ⟨1, 0⟩ ∨ u = ⟨-1, 0⟩ ∨ u = ⟨0, 1⟩ ∨ u = ⟨0, -1⟩ := by
  obtain ⟨x, y⟩ := u
  have h' : x * x + y * y = 1 := h
  have h1 := sqNN x
  have h2 := sqNN y
  have bnd : ∀ z : Int, z * z ≤ 1 → z = 0 ∨ z = 1 ∨ z = -1 := fun z hz => by
    have : z.natAbs * z.natAbs ≤ 1 := by
      have := Int.natAbs_mul_self' z
      have e : ((z.natAbs * z.natAbs : Nat) : Int) = z * z := by rw [Int.natCast_mul]; exact this
      omega
    have h3 : z.natAbs < 2 := by
      apply Nat.lt_of_not_le
      intro q
      have := Nat.mul_le_mul q q
      omega
    omega
  rcases bnd x (by omega) with rfl | rfl | rfl <;> rcases bnd y (by omega) with rfl | rfl | rfl <;> simp at h' ⊢
theorem unit_eisen {u : Z2} (h : isU false u) : u = ⟨1, 0⟩ ∨ u = ⟨-1, 0⟩ ∨ u = ⟨0, 1⟩ ∨ u = ⟨0, -1⟩ ∨ u = ⟨1, 1⟩ ∨ u = ⟨-1, -1⟩ := by
  obtain ⟨x, y⟩ := u
  have h' : x * x - x * y + y * y = 1 := h
  have bnd : ∀ z w : Int, z * z - z * w + w * w = 1 → z = 0 ∨ z = 1 ∨ z = -1 := fun z w hz => by
    have h1 := sqNN (2 * w - z)
    have e : 4 * (z * z - z * w + w * w) = (2 * w - z) * (2 * w - z) + 3 * (z * z) := by grind
    have h2 : z * z ≤ 1 := by omega
    have : z.natAbs * z.natAbs ≤ 1 := by
      have := Int.natAbs_mul_self' z
      have e : ((z.natAbs * z.natAbs : Nat) : Int) = z * z := by rw [Int.natCast_mul]; exact this
      omega
    have h3 : z.natAbs < 2 := by
      apply Nat.lt_of_not_le
      intro q
      have := Nat.mul_le_mul q q
      omega
    omega
  have hx := bnd x y h'
  have hy := bnd y x (by grind)
  rcases hx with rfl | rfl | rfl <;> rcases hy with rfl | rfl | rfl <;> simp at h' ⊢
theorem chief_one {u : Z2} (hu : isU g u) (ha : chiefP g a) (hb : chiefP g (mul g u a)) : mul g u a = a := by
  cases g
  · rcases unit_eisen hu with rfl | rfl | rfl | rfl | rfl | rfl <;> simp only [chiefP, mul] at ha hb ⊢ <;> first | omega | (exact ext' (by show _ = a.x; simp) (by show _ = a.y; simp))
  · rcases unit_gauss hu with rfl | rfl | rfl | rfl <;> simp only [chiefP, mul] at ha hb ⊢ <;> first | omega | (exact ext' (by show _ = a.x; simp) (by show _ = a.y; simp))
theorem chief_ne (h : chiefP g a) : a ≠ zero := by
  rintro rfl
  cases g <;> simp [chiefP, zero] at h
/-- two chief ones that divide each other are one -/
theorem chief_uniq (ha : chiefP g a) (hb : chiefP g b) (h : Dv g a b) (k : Dv g b a) : a = b := by
  obtain ⟨u, hu, rfl⟩ := assoc_of h k (chief_ne ha)
  exact (chief_one hu ha hb).symm
/-! ### quotients -/
theorem fdiv_near {s n : Int} (hn : 0 < n) : -n ≤ 2 * s - 2 * n * ((2 * s + n).fdiv (2 * n)) ∧ 2 * s - 2 * n * ((2 * s + n).fdiv (2 * n)) < n := by
  have h1 := Int.fmod_nonneg_of_pos (2 * s + n) (b := 2 * n) (by omega)
  have h2 := Int.fmod_lt_of_pos (2 * s + n) (b := 2 * n) (by omega)
  have h3 := Int.mul_fdiv_add_fmod (2 * s + n) (2 * n)
  omega
def quot (g : Bool) (a b : Z2) : Z2 := ⟨(2 * (mul g a (mir g b)).x + nrm g b).fdiv (2 * nrm g b), (2 * (mul g a (mir g b)).y + nrm g b).fdiv (2 * nrm g b)⟩
def rest (g : Bool) (a b : Z2) : Z2 := sub a (mul g (quot g a b) b)
theorem rest_mir : mul g (rest g a b) (mir g b) = ⟨(mul g a (mir g b)).x - nrm g b * (quot g a b).x, (mul g a (mir g b)).y - nrm g b * (quot g a b).y⟩ := by
  unfold rest
  rw [sub_mul', mul_assoc', mul_mir]
  generalize quot g a b = q
  generalize nrm g b = n
  generalize mul g a (mir g b) = s
  cases g <;> apply ext' <;> simp only [sub, mul] <;> grind
theorem sq_half {x n : Int} (h1 : -n ≤ 2 * x) (h2 : 2 * x < n) : 4 * (x * x) ≤ n * n := by
  have h : (2 * x).natAbs ≤ n.natAbs := by omega
  have h3 := Nat.mul_le_mul h h
  have e1 := Int.natAbs_mul_self' (2 * x)
  have e2 := Int.natAbs_mul_self' n
  have h4 : (((2 * x).natAbs * (2 * x).natAbs : Nat) : Int) ≤ ((n.natAbs * n.natAbs : Nat) : Int) := by omega
  rw [Int.natCast_mul, Int.natCast_mul] at h4
  have e3 : 2 * x * (2 * x) = 4 * (x * x) := by grind
  omega
theorem xy_half {x y n : Int} (h1 : -n ≤ 2 * x) (h2 : 2 * x < n) (h3 : -n ≤ 2 * y) (h4 : 2 * y < n) : -(n * n) ≤ 4 * (x * y) := by
  have a1 := sq_half h1 h2
  have a2 := sq_half h3 h4
  have a3 := sqNN (x + y)
  have e : (x + y) * (x + y) = x * x + 2 * (x * y) + y * y := by grind
  omega
/-- the rest is less: by how much -/
theorem rest_nrm (hb : b ≠ zero) : 4 * nrm g (rest g a b) ≤ (if g = true then 2 else 3) * nrm g b := by
  have hn := nrm_pos (g := g) hb
  have e := nrm_mul (g := g) (a := rest g a b) (b := mir g b)
  rw [rest_mir, nrm_mir] at e
  have q1 := fdiv_near (s := (mul g a (mir g b)).x) hn
  have q2 := fdiv_near (s := (mul g a (mir g b)).y) hn
  have ex : (quot g a b).x = (2 * (mul g a (mir g b)).x + nrm g b).fdiv (2 * nrm g b) := rfl
  have ey : (quot g a b).y = (2 * (mul g a (mir g b)).y + nrm g b).fdiv (2 * nrm g b) := rfl
  rw [← ex] at q1
  rw [← ey] at q2
  generalize (quot g a b).x = p at *
  generalize (quot g a b).y = q at *
  generalize (mul g a (mir g b)).x = s at *
  generalize (mul g a (mir g b)).y = t at *
  generalize nrm g b = n at *
  generalize nrm g (rest g a b) = r at *
  have f1 : 2 * n * p = 2 * (n * p) := by grind
  have f2 : 2 * n * q = 2 * (n * q) := by grind
  rw [f1] at q1
  rw [f2] at q2
  generalize n * p = np at *
  generalize n * q = nq at *
  have a1 := sq_half (x := s - np) (n := n) (by omega) (by omega)
  have a2 := sq_half (x := t - nq) (n := n) (by omega) (by omega)
  have a3 := xy_half (x := s - np) (y := t - nq) (n := n) (by omega) (by omega) (by omega) (by omega)
  apply Classical.byContradiction
  intro hh
  cases g
  · simp only [nrm] at e
    simp only [Bool.false_eq_true, if_false] at hh
    have h1 : (3 * n + 1) * n ≤ 4 * r * n := Int.mul_le_mul_of_nonneg_right (by omega) (by omega)
    have h2 : (3 * n + 1) * n = 3 * (n * n) + n := by grind
    have h3 : 4 * r * n = 4 * (r * n) := by grind
    omega
  · simp only [nrm] at e
    simp only [if_true] at hh
    have h1 : (2 * n + 1) * n ≤ 4 * r * n := Int.mul_le_mul_of_nonneg_right (by omega) (by omega)
    have h2 : (2 * n + 1) * n = 2 * (n * n) + n := by grind
    have h3 : 4 * r * n = 4 * (r * n) := by grind
    omega
theorem rest_lt (hb : b ≠ zero) : nrm g (rest g a b) < nrm g b := by
  have h1 := rest_nrm (g := g) (a := a) hb
  have h2 := nrm_pos (g := g) hb
  have h3 := nrm_nn (g := g) (a := rest g a b)
  cases g <;> simp at h1 <;> omega
theorem rest_eq : a = add (mul g (quot g a b) b) (rest g a b) := by
  unfold rest
  exact ext' (by simp only [add, sub]; omega) (by simp only [add, sub]; omega)
/-- nothing is left just for multiples -/
theorem rest_zero (hb : b ≠ zero) : rest g a b = zero ↔ Dv g b a := by
  constructor
  · intro h
    have e := rest_eq (g := g) (a := a) (b := b)
    rw [h] at e
    exact ⟨quot g a b, by rw [mul_comm']; exact e.trans (ext' (by simp only [add, zero]; omega) (by simp only [add, zero]; omega))⟩
  · intro h
    have h1 : Dv g b (rest g a b) := h.sub ((Dv.refl).mul')
    obtain ⟨c, hc⟩ := h1
    have e := nrm_mul (g := g) (a := b) (b := c)
    rw [← hc] at e
    have l := rest_lt (g := g) (a := a) hb
    have hp := nrm_pos (g := g) hb
    have hn := nrm_nn (g := g) (a := c)
    have : nrm g c = 0 := by
      apply Classical.byContradiction
      intro q
      have : nrm g b * 1 ≤ nrm g b * nrm g c := Int.mul_le_mul_of_nonneg_left (by omega) (by omega)
      omega
    have c0 := nrm_zero this
    subst c0
    rw [hc]
    exact mul_zero'
/-- multiples by the mirror, place by place -/
theorem dv_places (hb : b ≠ zero) : Dv g b a ↔ nrm g b ∣ (mul g a (mir g b)).x ∧ nrm g b ∣ (mul g a (mir g b)).y := by
  constructor
  · rintro ⟨c, rfl⟩
    have : mul g (mul g b c) (mir g b) = mul g ⟨nrm g b, 0⟩ c := by rw [mul_comm' (a := b), mul_assoc', mul_mir, mul_comm']
    rw [this]
    cases g
    · exact ⟨⟨c.x, by simp [mul]⟩, ⟨c.y, by simp [mul]⟩⟩
    · exact ⟨⟨c.x, by simp [mul]⟩, ⟨c.y, by simp [mul]⟩⟩
  · rintro ⟨⟨p, hp⟩, ⟨q, hq⟩⟩
    refine ⟨⟨p, q⟩, ?_⟩
    have hm : mir g b ≠ zero := fun h => by
      have := nrm_mir (g := g) (a := b)
      rw [h, nrm_z] at this
      exact hb (nrm_zero this.symm)
    apply mul_cancel hm (g := g)
    rw [mul_comm', ← mul_assoc', mul_comm' (a := mir g b), mul_mir]
    apply ext'
    · rw [hp]; cases g <;> simp [mul]
    · rw [hq]; cases g <;> simp [mul]
/-- a greatest divisor, as a sum -/
structure Gcd (g : Bool) (a b d s t : Z2) : Prop where
  chief : chiefP g d
  da : Dv g d a
  db : Dv g d b
  sum : add (mul g a s) (mul g b t) = d
theorem Gcd.of_dv {s t : Z2} (h : Gcd g a b d s t) {e : Z2} (h1 : Dv g e a) (h2 : Dv g e b) : Dv g e d := by
  rw [← h.sum]
  exact (h1.mul).add h2.mul
theorem Gcd.uniq {s t s' t' : Z2} (h : Gcd g a b c s t) (k : Gcd g a b d s' t') : c = d := chief_uniq h.chief k.chief (k.of_dv h.da h.db) (h.of_dv k.da k.db)
/-! ### units and the chief one -/
def unitsP : Bool → List Z2
  | true => [⟨1, 0⟩, ⟨0, 1⟩, ⟨-1, 0⟩, ⟨0, -1⟩]
  | false => [⟨1, 0⟩, ⟨1, 1⟩, ⟨0, 1⟩, ⟨-1, 0⟩, ⟨-1, -1⟩, ⟨0, -1⟩]
def unitsL : Bool → List Z2
  | true => [⟨-1, 0⟩, ⟨0, -1⟩, ⟨0, 1⟩, ⟨1, 0⟩]
  | false => [⟨-1, -1⟩, ⟨-1, 0⟩, ⟨0, -1⟩, ⟨0, 1⟩, ⟨1, 0⟩, ⟨1, 1⟩]
theorem unit_inv {u : Z2} (h : u ∈ unitsP g) : ∃ v, mul g u v = one := by
  cases g
  · simp only [unitsP, List.mem_cons, List.not_mem_nil, or_false] at h
    rcases h with rfl | rfl | rfl | rfl | rfl | rfl
    · exact ⟨⟨1, 0⟩, rfl⟩
    · exact ⟨⟨0, -1⟩, rfl⟩
    · exact ⟨⟨-1, -1⟩, rfl⟩
    · exact ⟨⟨-1, 0⟩, rfl⟩
    · exact ⟨⟨0, 1⟩, rfl⟩
    · exact ⟨⟨1, 1⟩, rfl⟩
  · simp only [unitsP, List.mem_cons, List.not_mem_nil, or_false] at h
    rcases h with rfl | rfl | rfl | rfl
    · exact ⟨⟨1, 0⟩, rfl⟩
    · exact ⟨⟨0, -1⟩, rfl⟩
    · exact ⟨⟨-1, 0⟩, rfl⟩
    · exact ⟨⟨0, 1⟩, rfl⟩
theorem unitsL_P {u : Z2} : u ∈ unitsL g ↔ u ∈ unitsP g := by
  cases g <;> simp only [unitsL, unitsP, List.mem_cons, List.not_mem_nil, or_false] <;> grind
def chB (g : Bool) (a : Z2) : Bool := (decide (a.x = 0) && decide (a.y = 0)) || (match g with
  | true => decide (0 < a.x) && decide (0 ≤ a.y)
  | false => decide (a.y < a.x) && decide (0 ≤ a.y))
theorem chB_iff (ha : a ≠ zero) : chB g a = true ↔ chiefP g a := by
  have hz : (decide (a.x = 0) && decide (a.y = 0)) = false := by
    rw [Bool.eq_false_iff]
    intro h
    rw [Bool.and_eq_true, decide_eq_true_eq, decide_eq_true_eq] at h
    exact ha (ext' h.1 h.2)
  unfold chB
  rw [hz, Bool.false_or]
  cases g <;> simp only [chiefP, Bool.and_eq_true, decide_eq_true_eq]
def chiefZ (g : Bool) (a : Z2) : Z2 := (((unitsP g).map fun u => mul g u a).filter (chB g)).headD zero
theorem chief_some : ((unitsP g).map fun u => mul g u a).filter (chB g) ≠ [] := by
  intro h
  rw [List.filter_eq_nil_iff] at h
  have hh : ∀ u ∈ unitsP g, ¬ chB g (mul g u a) = true := fun u hu => h _ (List.mem_map.mpr ⟨u, hu, rfl⟩)
  cases g
  · have h1 := hh ⟨1, 0⟩ (by simp [unitsP]); have h2 := hh ⟨1, 1⟩ (by simp [unitsP]); have h3 := hh ⟨0, 1⟩ (by simp [unitsP])
    have h4 := hh ⟨-1, 0⟩ (by simp [unitsP]); have h5 := hh ⟨-1, -1⟩ (by simp [unitsP]); have h6 := hh ⟨0, -1⟩ (by simp [unitsP])
    simp only [chB, Bool.or_eq_true, Bool.and_eq_true, decide_eq_true_eq] at h1 h2 h3 h4 h5 h6
    simp only [mul] at h1 h2 h3 h4 h5 h6
    omega
  · have h1 := hh ⟨1, 0⟩ (by simp [unitsP]); have h2 := hh ⟨0, 1⟩ (by simp [unitsP])
    have h3 := hh ⟨-1, 0⟩ (by simp [unitsP]); have h4 := hh ⟨0, -1⟩ (by simp [unitsP])
    simp only [chB, Bool.or_eq_true, Bool.and_eq_true, decide_eq_true_eq] at h1 h2 h3 h4
    simp only [mul] at h1 h2 h3 h4
    omega
theorem chief_head : ∃ r, ((unitsP g).map fun u => mul g u a).filter (chB g) = chiefZ g a :: r := by
  unfold chiefZ
  cases h : ((unitsP g).map fun u => mul g u a).filter (chB g) with
  | nil => exact absurd h chief_some
  | cons x r => exact ⟨r, rfl⟩
theorem chief_mem : ∃ u ∈ unitsP g, chiefZ g a = mul g u a ∧ chB g (chiefZ g a) = true := by
  obtain ⟨r, h⟩ := chief_head (g := g) (a := a)
  have hm : chiefZ g a ∈ ((unitsP g).map fun u => mul g u a).filter (chB g) := by rw [h]; exact List.mem_cons_self ..
  obtain ⟨h1, h2⟩ := List.mem_filter.mp hm
  obtain ⟨u, hu, e⟩ := List.mem_map.mp h1
  exact ⟨u, hu, e.symm, h2⟩
theorem unit_dv {u : Z2} (hu : u ∈ unitsP g) : Dv g (mul g u a) a ∧ Dv g a (mul g u a) := by
  obtain ⟨v, hv⟩ := unit_inv hu
  refine ⟨⟨v, ?_⟩, ⟨u, mul_comm'⟩⟩
  rw [mul_comm' (a := u), mul_assoc', hv, mul_one']
theorem unit_ne {u : Z2} (hu : u ∈ unitsP g) (ha : a ≠ zero) : mul g u a ≠ zero := fun h => by
  have := (unit_dv (g := g) (a := a) hu).1
  rw [h] at this
  exact ha (zero_dv this)
theorem chief_ch (ha : a ≠ zero) : chiefP g (chiefZ g a) := by
  obtain ⟨u, hu, e, hc⟩ := chief_mem (g := g) (a := a)
  rw [e] at hc ⊢
  exact (chB_iff (unit_ne hu ha)).mp hc
theorem chief_dv : Dv g (chiefZ g a) a ∧ Dv g a (chiefZ g a) := by
  obtain ⟨u, hu, e, hc⟩ := chief_mem (g := g) (a := a)
  rw [e]
  exact unit_dv hu
theorem chief_zero : chiefZ g zero = zero := by
  obtain ⟨u, hu, e, hc⟩ := chief_mem (g := g) (a := zero)
  rw [e]
  exact mul_zero'
/-- the chief one of associates -/
theorem chief_eq (h : Dv g a b) (k : Dv g b a) : chiefZ g a = chiefZ g b := by
  by_cases ha : a = zero
  · subst ha
    rw [zero_dv h]
  · have hb : b ≠ zero := fun q => by subst q; exact ha (zero_dv k)
    exact chief_uniq (chief_ch ha) (chief_ch hb) ((chief_dv.1.trans h).trans chief_dv.2) ((chief_dv.1.trans k).trans chief_dv.2)
theorem chief_self (h : chiefP g a) : chiefZ g a = a := chief_uniq (chief_ch (chief_ne h)) h chief_dv.1 chief_dv.2
theorem chief_iff (ha : a ≠ zero) : chiefZ g a = chiefZ g b → Dv g a b ∧ Dv g b a := fun e =>
  ⟨chief_dv.2.trans (e ▸ chief_dv.1), chief_dv.2.trans (e ▸ chief_dv.1)⟩
/-- the law's way: another order of the units, another test -/
def chL (g : Bool) (a : Z2) : Bool := decide (0 ≤ a.y) && decide ((match g with | true => 0 | false => a.y) < a.x)
theorem chL_iff : chL g a = true ↔ chiefP g a := by
  cases g <;> simp only [chL, chiefP, Bool.and_eq_true, decide_eq_true_eq] <;> omega
theorem chief_law (ha : a ≠ zero) : ∃ r, ((unitsL g).map fun u => mul g u a).filter (chL g) = chiefZ g a :: r := by
  have mem : ∀ x ∈ ((unitsL g).map fun u => mul g u a).filter (chL g), x = chiefZ g a := fun x hx => by
    obtain ⟨h1, h2⟩ := List.mem_filter.mp hx
    obtain ⟨u, hu, rfl⟩ := List.mem_map.mp h1
    have hu' := unitsL_P.mp hu
    exact chief_uniq (chL_iff.mp h2) (chief_ch ha) ((unit_dv hu').1.trans chief_dv.2) (chief_dv.1.trans (unit_dv hu').2)
  cases h : ((unitsL g).map fun u => mul g u a).filter (chL g) with
  | nil =>
    exfalso
    rw [List.filter_eq_nil_iff] at h
    obtain ⟨u, hu, e, hc⟩ := chief_mem (g := g) (a := a)
    exact h _ (List.mem_map.mpr ⟨u, unitsL_P.mpr hu, rfl⟩) (chL_iff.mpr (e ▸ chief_ch ha))
  | cons x r => exact ⟨r, by rw [mem x (by rw [h]; exact List.mem_cons_self ..)]⟩
end Z2
open Z2
abbrev pr (a : Z2) : D := PyData.tuple [.int a.x, .int a.y]
theorem pr_inj {a b : Z2} (h : pr a = pr b) : a = b := by
  have h' : PyData.tuple [.int a.x, .int a.y] = .tuple [.int b.x, .int b.y] := h
  injection h' with h'
  injection h' with h1 h2
  injection h2 with h2 _
  injection h1 with h1
  injection h2 with h2
  exact Z2.ext' h1 h2
theorem eqv_pr {a b : Z2} : PyData.eqv (pr a) (pr b) = true ↔ a = b := by
  simp only [eqv_t, eqv_cons, eqv_nil, eqv_i, Bool.and_true, Bool.and_eq_true, beq_iff_eq]
  constructor
  · rintro ⟨h1, h2⟩
    exact Z2.ext' h1 h2
  · rintro rfl
    exact ⟨rfl, rfl⟩
def rg (g : Bool) : Str := match g with
  | true => "gauss"
  | false => "eisen"
/-! ### sizes, by the greater one -/
theorem Bd.add1 {n : Nat} {i j : Int} (h : Bd n i) (k : Bd n j) : Bd (n + 1) (i + j) := .of (by
  have := h.lt; have := k.lt
  rw [Nat.pow_succ]
  omega)
theorem Bd.sub1 {n : Nat} {i j : Int} (h : Bd n i) (k : Bd n j) : Bd (n + 1) (i - j) := .of (by
  have := h.lt; have := k.lt
  rw [Nat.pow_succ]
  omega)
structure BdZ (n : Nat) (a : Z2) : Prop where
  x : Bd n a.x
  y : Bd n a.y
theorem BdZ.mono {m n : Nat} {a : Z2} (h : BdZ m a) (l : m ≤ n) : BdZ n a := ⟨h.x.mono l, h.y.mono l⟩
theorem BdZ.mul {m n : Nat} {g : Bool} {a b : Z2} (h : BdZ m a) (k : BdZ n b) : BdZ (m + n + 2) (Z2.mul g a b) := by
  have e1 := h.x.mul k.x; have e2 := h.y.mul k.y; have e3 := h.x.mul k.y; have e4 := h.y.mul k.x
  cases g
  · exact ⟨(e1.sub1 e2).mono (by omega), (e3.add1 e4).sub1 (e2.mono (by omega))⟩
  · exact ⟨(e1.sub1 e2).mono (by omega), (e3.add1 e4).mono (by omega)⟩
theorem BdZ.sub {n : Nat} {a b : Z2} (h : BdZ n a) (k : BdZ n b) : BdZ (n + 1) (Z2.sub a b) := ⟨h.x.sub1 k.x, h.y.sub1 k.y⟩
theorem BdZ.add {n : Nat} {a b : Z2} (h : BdZ n a) (k : BdZ n b) : BdZ (n + 1) (Z2.add a b) := ⟨h.x.add1 k.x, h.y.add1 k.y⟩
theorem BdZ.mir {n : Nat} {g : Bool} {a : Z2} (h : BdZ n a) : BdZ (n + 1) (Z2.mir g a) := by
  have z : Bd n (0 : Int) := .of (by have := Nat.two_pow_pos n; simpa using this)
  cases g
  · exact ⟨h.x.sub1 h.y, z.sub1 h.y⟩
  · exact ⟨h.x.mono (by omega), z.sub1 h.y⟩
theorem BdZ.nrm {n : Nat} {g : Bool} {a : Z2} (h : BdZ n a) : Bd (n + n + 2) (Z2.nrm g a) := by
  have e1 := h.x.mul h.x; have e2 := h.y.mul h.y; have e3 := h.x.mul h.y
  cases g
  · exact ((e1.sub1 e3).add1 (e2.mono (by omega)))
  · exact (e1.add1 e2).mono (by omega)
theorem BdZ.quot {m n : Nat} {g : Bool} {a b : Z2} (h : BdZ m a) (k : BdZ n b) : BdZ (m + n + n + 20) (Z2.quot g a b) := by
  have e1 := h.mul (g := g) (k.mir (g := g))
  have e2 := k.nrm (g := g)
  have two : Bd 2 (2 : Int) := .of (by decide)
  unfold Z2.quot
  exact ⟨((((two.mul e1.x).mono (n := m + n + n + 10) (by omega)).add1 (e2.mono (by omega))).fdiv).mono (by omega), ((((two.mul e1.y).mono (n := m + n + n + 10) (by omega)).add1 (e2.mono (by omega))).fdiv).mono (by omega)⟩
/-- small norms, small numbers -/
theorem bdz_of_nrm {n : Nat} {g : Bool} {a : Z2} (h : nrm g a < 2 ^ (2 * n)) : BdZ (n + 1) a := by
  have key : ∀ x : Int, 3 * (x * x) ≤ 4 * nrm g a → Bd (n + 1) x := fun x hx => by
    refine .of ?_
    apply Nat.lt_of_not_le
    intro q
    have h1 := Nat.mul_le_mul q q
    have e := Int.natAbs_mul_self' x
    have h2 : ((2 ^ (n + 1) * 2 ^ (n + 1) : Nat) : Int) ≤ x * x := by
      rw [← e, ← Int.natCast_mul]
      omega
    have h3 : ((2 ^ (n + 1) * 2 ^ (n + 1) : Nat) : Int) = 4 * 2 ^ (2 * n) := by
      rw [← Nat.pow_add, show n + 1 + (n + 1) = 2 * n + 2 by omega, Nat.pow_add, Int.natCast_mul, Int.natCast_pow]
      have : ((2 ^ 2 : Nat) : Int) = 4 := rfl
      rw [this]
      have : ((2 : Nat) : Int) = 2 := rfl
      rw [this]
      omega
    omega
  have e1 := sqNN (2 * a.x - a.y)
  have e2 := sqNN (2 * a.y - a.x)
  have e3 := sqNN a.x
  have e4 := sqNN a.y
  cases g
  · have f1 : 4 * nrm false a = (2 * a.x - a.y) * (2 * a.x - a.y) + 3 * (a.y * a.y) := by simp only [nrm]; grind
    have f2 : 4 * nrm false a = (2 * a.y - a.x) * (2 * a.y - a.x) + 3 * (a.x * a.x) := by simp only [nrm]; grind
    exact ⟨key _ (by omega), key _ (by omega)⟩
  · exact ⟨key _ (by simp only [nrm]; omega), key _ (by simp only [nrm]; omega)⟩
end DL

set_option Elab.async false
set_option linter.all false
set_option maxRecDepth 100000
set_option maxHeartbeats 4000000
/-! DMn: plain mathematics of factors: trial, prime numbers, one way to be a product, what is told by the factors. -/
namespace DL
namespace Nf
/-! ### prime numbers -/
def Pr (p : Nat) : Prop := 1 < p ∧ ∀ d, d ∣ p → d = 1 ∨ d = p
theorem Pr.cop {p a : Nat} (hp : Pr p) (h : ¬ p ∣ a) : Nat.Coprime p a := by
  rcases hp.2 _ (Nat.gcd_dvd_left p a) with e | e
  · exact e
  · exact absurd (e ▸ Nat.gcd_dvd_right p a) h
theorem Pr.euclid {p a b : Nat} (hp : Pr p) (h : p ∣ a * b) : p ∣ a ∨ p ∣ b := by
  by_cases q : p ∣ a
  · exact .inl q
  · exact .inr ((hp.cop q).dvd_of_dvd_mul_left h)
theorem Pr.dvd_pow {p a e : Nat} (hp : Pr p) (h : p ∣ a ^ e) : p ∣ a := by
  induction e with
  | zero => exact absurd (Nat.dvd_one.mp h) (by have := hp.1; omega)
  | succ e ih =>
    rw [Nat.pow_succ] at h
    rcases hp.euclid h with h | h
    · exact ih h
    · exact h
theorem Pr.eq_of_dvd {p q : Nat} (hp : Pr p) (hq : Pr q) (h : p ∣ q) : p = q := by
  rcases hq.2 p h with e | e
  · exact absurd e (by have := hp.1; omega)
  · exact e
/-! ### lists of primes and powers -/
abbrev L := List (Nat × Nat)
def pf : L → Nat
  | [] => 1
  | x :: l => x.1 ^ x.2 * pf l
structure Ok (l : L) : Prop where
  pr : ∀ x ∈ l, Pr x.1 ∧ 0 < x.2
  pw : l.Pairwise fun x y => x.1 ≠ y.1
theorem Ok.tail {x : Nat × Nat} {l : L} (h : Ok (x :: l)) : Ok l := ⟨fun y hy => h.pr y (List.mem_cons_of_mem _ hy), (List.pairwise_cons.mp h.pw).2⟩
theorem Ok.pos : ∀ {l : L}, Ok l → 0 < pf l
  | [], _ => Nat.one_pos
  | x :: l, h => Nat.mul_pos (Nat.pow_pos (by have := (h.pr x (List.mem_cons_self ..)).1.1; omega)) h.tail.pos
theorem dvd_pf {p : Nat} (hp : Pr p) : ∀ {l : L}, Ok l → p ∣ pf l → ∃ e, (p, e) ∈ l
  | [], _, h => absurd (Nat.dvd_one.mp h) (by have := hp.1; omega)
  | x :: l, o, h => by
    rcases hp.euclid h with h | h
    · have := hp.eq_of_dvd (o.pr x (List.mem_cons_self ..)).1 (hp.dvd_pow h)
      exact ⟨x.2, by rw [this]; exact List.mem_cons_self ..⟩
    · obtain ⟨e, he⟩ := dvd_pf hp o.tail h
      exact ⟨e, List.mem_cons_of_mem _ he⟩
theorem pow_of {p e : Nat} : ∀ {l : L}, Ok l → (p, e) ∈ l → p ^ e ∣ pf l ∧ ¬ p ^ (e + 1) ∣ pf l
  | [], _, h => (List.not_mem_nil h).elim
  | x :: l, o, h => by
    have hx := List.pairwise_cons.mp o.pw
    rcases List.mem_cons.mp h with rfl | h
    · have hp := (o.pr _ (List.mem_cons_self ..)).1
      refine ⟨Nat.dvd_mul_right .., fun q => ?_⟩
      have h0 : 0 < p ^ e := Nat.pow_pos (by have := hp.1; omega)
      rw [Nat.pow_succ] at q
      have q2 : p ∣ pf l := Nat.dvd_of_mul_dvd_mul_left h0 q
      obtain ⟨e2, he2⟩ := dvd_pf hp o.tail q2
      exact hx.1 _ he2 rfl
    · obtain ⟨h1, h2⟩ := pow_of o.tail h
      have hp := (o.tail.pr _ h).1
      have hne := hx.1 _ h
      refine ⟨Nat.dvd_trans h1 (Nat.dvd_mul_left ..), fun q => h2 ?_⟩
      have hc : Nat.Coprime (p ^ (e + 1)) (x.1 ^ x.2) := by
        apply Nat.Coprime.pow
        refine hp.cop fun q => hne (hp.eq_of_dvd (o.pr x (List.mem_cons_self ..)).1 q).symm
      exact hc.dvd_of_dvd_mul_left q
theorem mem_iff {p e : Nat} {l : L} (o : Ok l) : (p, e) ∈ l ↔ Pr p ∧ 0 < e ∧ p ^ e ∣ pf l ∧ ¬ p ^ (e + 1) ∣ pf l := by
  constructor
  · intro h
    exact ⟨(o.pr _ h).1, (o.pr _ h).2, (pow_of o h).1, (pow_of o h).2⟩
  · rintro ⟨hp, he, h1, h2⟩
    have : p ∣ pf l := Nat.dvd_trans (by
      have : p ^ e = p * p ^ (e - 1) := by rw [← Nat.pow_succ']; congr 1; omega
      rw [this]
      exact Nat.dvd_mul_right ..) h1
    obtain ⟨e2, h3⟩ := dvd_pf hp o this
    obtain ⟨h4, h5⟩ := pow_of o h3
    have : e = e2 := by
      rcases Nat.lt_trichotomy e e2 with q | q | q
      · exact absurd (Nat.dvd_trans (Nat.pow_dvd_pow p q) h4) h2
      · exact q
      · exact absurd (Nat.dvd_trans (Nat.pow_dvd_pow p q) h1) h5
    rw [this]
    exact h3
theorem Ok.nodup {l : L} (o : Ok l) : l.Nodup := o.pw.imp fun h e => h (by rw [e])
theorem ok_perm {l l2 : L} (o : Ok l) (o2 : Ok l2) (h : pf l = pf l2) : l.Perm l2 := by
  refine (List.perm_ext_iff_of_nodup o.nodup o2.nodup).mpr fun x => ?_
  obtain ⟨p, e⟩ := x
  rw [mem_iff o, mem_iff o2, h]
theorem pf_append : ∀ {l l2 : L}, pf (l ++ l2) = pf l * pf l2
  | [], l2 => (Nat.one_mul _).symm
  | x :: l, l2 => by
    show x.1 ^ x.2 * pf (l ++ l2) = x.1 ^ x.2 * pf l * pf l2
    rw [pf_append, Nat.mul_assoc]
theorem ok_append {l l2 : L} (o : Ok l) (o2 : Ok l2) (h : Nat.Coprime (pf l) (pf l2)) : Ok (l ++ l2) := by
  refine ⟨fun x hx => ?_, ?_⟩
  · rcases List.mem_append.mp hx with h | h
    · exact o.pr x h
    · exact o2.pr x h
  · rw [List.pairwise_append]
    refine ⟨o.pw, o2.pw, fun x hx y hy e => ?_⟩
    obtain ⟨p, a⟩ := x
    obtain ⟨q, b⟩ := y
    simp only at e
    subst e
    have hp := o.pr _ hx
    have d1 : p ∣ pf l := Nat.dvd_trans (Nat.dvd_of_pow_dvd hp.2 (Nat.dvd_refl _)) (pow_of o hx).1
    have d2 : p ∣ pf l2 := Nat.dvd_trans (Nat.dvd_of_pow_dvd (o2.pr _ hy).2 (Nat.dvd_refl _)) (pow_of o2 hy).1
    have := Nat.dvd_gcd d1 d2
    rw [h] at this
    have := Nat.dvd_one.mp this
    have := hp.1.1
    simp only at this
    omega
/-! ### trial -/
/-- a number without a prime, and how often -/
def pull : Nat → Nat → Nat → Nat × Nat := fun f => Nat.rec (motive := fun _ => Nat → Nat → Nat × Nat) (fun _ n => (n, 0)) (fun _ ih t n => if Nat.beq (n % t) 0 = true then ((ih t (n / t)).1, (ih t (n / t)).2 + 1) else (n, 0)) f
theorem pull_succ {f t n : Nat} : pull (f + 1) t n = if n % t = 0 then ((pull f t (n / t)).1, (pull f t (n / t)).2 + 1) else (n, 0) := by
  show (if Nat.beq (n % t) 0 = true then _ else _) = _
  by_cases h : n % t = 0
  · rw [if_pos h, if_pos (by rw [h]; rfl)]
    rfl
  · rw [if_neg h, if_neg (by rw [Nat.beq_eq]; exact h)]
theorem pull_ok {t : Nat} (ht : 2 ≤ t) : ∀ {f n : Nat}, 0 < n → n < 2 ^ f → n = t ^ (pull f t n).2 * (pull f t n).1 ∧ ¬ t ∣ (pull f t n).1 ∧ 0 < (pull f t n).1
  | 0, n, h0, h => by omega
  | f + 1, n, h0, h => by
    rw [pull_succ]
    split
    · rename_i hm
      have hd := Nat.div_add_mod n t
      rw [hm] at hd
      have h1 : 0 < n / t := Nat.div_pos (Nat.le_of_dvd h0 (Nat.dvd_of_mod_eq_zero hm)) (by omega)
      have h2 : n / t < 2 ^ f := by
        rw [Nat.pow_succ] at h
        have : 2 * (n / t) ≤ t * (n / t) := Nat.mul_le_mul_right _ ht
        omega
      obtain ⟨e1, e2, e3⟩ := pull_ok ht h1 h2
      refine ⟨?_, e2, e3⟩
      simp only
      rw [Nat.pow_succ, Nat.mul_comm (t ^ _) t, Nat.mul_assoc, ← e1]
      omega
    · rename_i hm
      simp only [Nat.pow_zero, Nat.one_mul]
      exact ⟨trivial, fun q => hm (Nat.mod_eq_zero_of_dvd q), h0⟩
theorem pull_len {t f n : Nat} : (pull f t n).2 ≤ f := by
  induction f generalizing n with
  | zero => exact Nat.le_refl _
  | succ f ih =>
    rw [pull_succ]
    split
    · have := ih (n := n / t)
      simp only
      omega
    · exact Nat.zero_le _
def nxt (t : Nat) : Nat := t + 1 + t % 2
def last (n : Nat) : L := if Nat.ble 2 n = true then [(n, 1)] else []
/-- factors by trial, from a trial on -/
def facF : Nat → Nat → Nat → L := fun f => Nat.rec (motive := fun _ => Nat → Nat → L) (fun n _ => last n) (fun _ ih n t => if Nat.ble (t * t) n = true then (if Nat.beq (n % t) 0 = true then (t, (pull 40 t n).2) :: ih (pull 40 t n).1 (nxt t) else ih n (nxt t)) else last n) f
theorem facF_succ {f n t : Nat} : facF (f + 1) n t = if t * t ≤ n then (if n % t = 0 then (t, (pull 40 t n).2) :: facF f (pull 40 t n).1 (nxt t) else facF f n (nxt t)) else last n := by
  show (if Nat.ble (t * t) n = true then (if Nat.beq (n % t) 0 = true then _ else _) else _) = _
  by_cases h : t * t ≤ n
  · rw [if_pos h, if_pos (by rw [Nat.ble_eq]; exact h)]
    by_cases h2 : n % t = 0
    · rw [if_pos h2, if_pos (by rw [h2]; rfl)]
      rfl
    · rw [if_neg h2, if_neg (by rw [Nat.beq_eq]; exact h2)]
      rfl
  · rw [if_neg h, if_neg (by rw [Nat.ble_eq]; exact h)]
def FF : Nat := 100000
def fac (n : Nat) : L := facF FF n 2
/-- no divisor below t; t is 2 or odd -/
structure Tr (n t : Nat) : Prop where
  n0 : 0 < n
  n1 : n < 2 ^ 40
  t2 : 2 ≤ t
  odd : t = 2 ∨ t % 2 = 1
  low : ∀ d, 1 < d → d ∣ n → t ≤ d
theorem Tr.prime {n t : Nat} (h : Tr n t) (hd : t ∣ n) : Pr t := by
  refine ⟨by have := h.t2; omega, fun d hd2 => ?_⟩
  have t0 : 0 < t := by have := h.t2; omega
  have := Nat.le_of_dvd t0 hd2
  have hd0 : 0 < d := Nat.pos_of_dvd_of_pos hd2 t0
  by_cases q : d = 1
  · exact .inl q
  · have := h.low d (by omega) (Nat.dvd_trans hd2 hd)
    exact .inr (by omega)
theorem nxt_le {n t : Nat} (h : Tr n t) (hm : ¬ t ∣ n) : ∀ d, 1 < d → d ∣ n → nxt t ≤ d := fun d h1 h2 => by
  have h3 := h.low d h1 h2
  have h4 : d ≠ t := fun e => hm (e ▸ h2)
  unfold nxt
  rcases h.odd with q | q
  · omega
  · have h5 : d ≠ t + 1 := fun e => by
      have : 2 ∣ n := Nat.dvd_trans (by omega) h2
      have := h.low 2 (by omega) this
      have := h.t2
      omega
    omega
theorem nxt_odd {n t : Nat} (h : Tr n t) : nxt t = 2 ∨ nxt t % 2 = 1 := by
  unfold nxt
  rcases h.odd with q | q
  · subst q
    exact .inr rfl
  · exact .inr (by omega)
theorem Tr.skip {n t : Nat} (h : Tr n t) (hm : n % t ≠ 0) : Tr n (nxt t) :=
  ⟨h.n0, h.n1, by have := h.t2; unfold nxt; omega, nxt_odd h, nxt_le h fun q => hm (Nat.mod_eq_zero_of_dvd q)⟩
theorem Tr.out {n t : Nat} (h : Tr n t) : Tr (pull 40 t n).1 (nxt t) := by
  obtain ⟨e1, e2, e3⟩ := pull_ok h.t2 h.n0 h.n1
  have hd : (pull 40 t n).1 ∣ n := by
    have : n = (pull 40 t n).1 * t ^ (pull 40 t n).2 := by rw [Nat.mul_comm]; exact e1
    exact ⟨_, this⟩
  have h' : Tr (pull 40 t n).1 t := ⟨e3, Nat.lt_of_le_of_lt (Nat.le_of_dvd h.n0 hd) h.n1, h.t2, h.odd, fun d h1 h2 => h.low d h1 (Nat.dvd_trans h2 hd)⟩
  exact ⟨h'.n0, h'.n1, by have := h.t2; unfold nxt; omega, nxt_odd h, nxt_le h' e2⟩
theorem Tr.last {n t : Nat} (h : Tr n t) (hl : ¬ t * t ≤ n) : Ok (last n) ∧ pf (Nf.last n) = n ∧ ∀ x ∈ Nf.last n, t ≤ x.1 := by
  unfold Nf.last
  by_cases q : 2 ≤ n
  · rw [if_pos (by rw [Nat.ble_eq]; exact q)]
    have hp : Pr n := by
      refine ⟨by omega, fun d hd => ?_⟩
      obtain ⟨c, hc⟩ := hd
      by_cases q1 : d = 1
      · exact .inl q1
      · right
        have d0 : 0 < d := Nat.pos_of_ne_zero fun e => by rw [e, Nat.zero_mul] at hc; omega
        have c0 : 0 < c := Nat.pos_of_ne_zero fun e => by rw [e, Nat.mul_zero] at hc; omega
        by_cases q2 : c = 1
        · rw [q2, Nat.mul_one] at hc
          exact hc.symm
        · have h1 := h.low d (by omega) ⟨c, hc⟩
          have h2 := h.low c (by omega) ⟨d, by rw [Nat.mul_comm]; exact hc⟩
          have := Nat.mul_le_mul h1 h2
          omega
    refine ⟨⟨fun x hx => ?_, List.pairwise_singleton ..⟩, ?_, fun x hx => ?_⟩
    · rw [List.mem_singleton.mp hx]
      exact ⟨hp, Nat.one_pos⟩
    · simp [pf]
    · rw [List.mem_singleton.mp hx]
      exact h.low n (by omega) (Nat.dvd_refl _)
  · have := h.n0
    rw [if_neg (by rw [Nat.ble_eq]; exact q)]
    exact ⟨⟨fun x hx => (List.not_mem_nil hx).elim, List.Pairwise.nil⟩, (show 1 = n by omega), fun x hx => (List.not_mem_nil hx).elim⟩
theorem facF_ok : ∀ {f n t : Nat}, Tr n t → n < (t + f) * (t + f) → Ok (facF f n t) ∧ pf (facF f n t) = n ∧ (∀ x ∈ facF f n t, t ≤ x.1) ∧ (facF f n t).Pairwise (fun x y => x.1 < y.1)
  | 0, n, t, h, hf => by
    have h1 := h.last (by rw [Nat.add_zero] at hf; omega)
    refine ⟨h1.1, h1.2.1, h1.2.2, ?_⟩
    show (last n).Pairwise _
    unfold last
    split
    · exact List.pairwise_singleton ..
    · exact List.Pairwise.nil
  | f + 1, n, t, h, hf => by
    have hnx : t + 1 ≤ nxt t := by unfold nxt; omega
    have hle : (t + (f + 1)) * (t + (f + 1)) ≤ (nxt t + f) * (nxt t + f) := Nat.mul_le_mul (by omega) (by omega)
    rw [facF_succ]
    split
    · rename_i hsq
      split
      · rename_i hm
        have hdv := Nat.dvd_of_mod_eq_zero hm
        obtain ⟨e1, e2, e3⟩ := pull_ok h.t2 h.n0 h.n1
        have ho := h.out
        have hlt : (pull 40 t n).1 ≤ n := by
          apply Nat.le_of_dvd h.n0
          exact ⟨t ^ (pull 40 t n).2, by rw [Nat.mul_comm]; exact e1⟩
        obtain ⟨i1, i2, i3, i4⟩ := facF_ok (f := f) ho (by omega)
        have hp := h.prime hdv
        have h0 : 0 < (pull 40 t n).2 := by
          apply Nat.pos_of_ne_zero
          intro q
          rw [q, Nat.pow_zero, Nat.one_mul] at e1
          rw [← e1] at e2
          exact e2 hdv
        have lt : ∀ y ∈ facF f (pull 40 t n).1 (nxt t), t < y.1 := fun y hy => by have := i3 y hy; omega
        refine ⟨⟨fun x hx => ?_, ?_⟩, ?_, fun x hx => ?_, ?_⟩
        · rcases List.mem_cons.mp hx with rfl | hx
          · exact ⟨hp, h0⟩
          · exact i1.pr x hx
        · rw [List.pairwise_cons]
          exact ⟨fun y hy => by have := lt y hy; simp only; omega, i1.pw⟩
        · show t ^ (pull 40 t n).2 * pf (facF f (pull 40 t n).1 (nxt t)) = n
          rw [i2]
          exact e1.symm
        · rcases List.mem_cons.mp hx with rfl | hx
          · exact Nat.le_refl _
          · exact Nat.le_of_lt (lt x hx)
        · rw [List.pairwise_cons]
          exact ⟨fun y hy => lt y hy, i4⟩
      · rename_i hm
        obtain ⟨i1, i2, i3, i4⟩ := facF_ok (f := f) (h.skip hm) (by omega)
        exact ⟨i1, i2, fun x hx => by have := i3 x hx; omega, i4⟩
    · rename_i hl
      have h1 := h.last hl
      refine ⟨h1.1, h1.2.1, h1.2.2, ?_⟩
      unfold last
      split
      · exact List.pairwise_singleton ..
      · exact List.Pairwise.nil
theorem tr2 {n : Nat} (h0 : 0 < n) (h : n ≤ 10 ^ 10) : Tr n 2 := ⟨h0, Nat.lt_of_le_of_lt h (by decide), by decide, .inl rfl, fun d h1 _ => h1⟩
theorem fac_ok {n : Nat} (h0 : 0 < n) (h : n ≤ 10 ^ 10) : Ok (fac n) ∧ pf (fac n) = n ∧ (fac n).Pairwise (fun x y => x.1 < y.1) := by
  obtain ⟨i1, i2, _, i4⟩ := facF_ok (f := FF) (tr2 h0 h) (Nat.lt_of_le_of_lt h (by decide))
  exact ⟨i1, i2, i4⟩
end Nf
end DL

set_option Elab.async false
set_option linter.all false
set_option maxRecDepth 100000
set_option maxHeartbeats 4000000
/-! DMo: what is told of a number by its factors. -/
namespace DL
namespace Nf
open PySem PyProof.Rows
/-! ### products over the factors -/
def prodI (g : Nat × Nat → Int) : L → Int
  | [] => 1
  | x :: l => g x * prodI g l
theorem prodI_append {g : Nat × Nat → Int} : ∀ {l l2 : L}, prodI g (l ++ l2) = prodI g l * prodI g l2
  | [], l2 => (Int.one_mul _).symm
  | x :: l, l2 => by
    show g x * prodI g (l ++ l2) = g x * prodI g l * prodI g l2
    rw [prodI_append, Int.mul_assoc]
theorem prodI_snoc {g : Nat × Nat → Int} {l : L} {x : Nat × Nat} : prodI g (l ++ [x]) = prodI g l * g x := by
  rw [prodI_append]
  show prodI g l * (g x * 1) = _
  rw [Int.mul_one]
theorem prodI_perm {g : Nat × Nat → Int} {l l2 : L} (h : l.Perm l2) : prodI g l = prodI g l2 := by
  induction h with
  | nil => rfl
  | cons x _ ih => show g x * _ = g x * _; rw [ih]
  | swap x y l => show g y * (g x * prodI g l) = g x * (g y * prodI g l); rw [← Int.mul_assoc, ← Int.mul_assoc, Int.mul_comm (g y)]
  | trans _ _ i1 i2 => rw [i1, i2]
def gCnt (x : Nat × Nat) : Int := x.2 + 1
def pws (x : Nat × Nat) (k : Nat) : List Int := (List.range k).map fun j => ((x.1 : Int) ^ j)
def gSig (x : Nat × Nat) : Int := (pws x (x.2 + 1)).sum
def gPhi (x : Nat × Nat) : Int := (x.1 : Int) ^ x.2 - (x.1 : Int) ^ (x.2 - 1)
def gMu (x : Nat × Nat) : Int := if x.2 > 1 then 0 else -1
def gRt (x : Nat × Nat) : Int := (x.1 : Int) ^ (x.2 / 2)
def gRs (x : Nat × Nat) : Int := if x.2 % 2 = 1 then x.1 else 1
def gId (x : Nat × Nat) : Int := (x.1 : Int) ^ x.2
theorem pf_int : ∀ l : L, ((pf l : Nat) : Int) = prodI gId l
  | [] => rfl
  | x :: l => by
    show ((x.1 ^ x.2 * pf l : Nat) : Int) = gId x * prodI gId l
    rw [← pf_int l, Int.natCast_mul, Int.natCast_pow]
    rfl
theorem root_rest : ∀ l : L, prodI gRt l * prodI gRt l * prodI gRs l = prodI gId l
  | [] => rfl
  | x :: l => by
    show gRt x * prodI gRt l * (gRt x * prodI gRt l) * (gRs x * prodI gRs l) = gId x * prodI gId l
    rw [← root_rest l]
    have e : gRt x * gRt x * gRs x = gId x := by
      unfold gRt gRs gId
      rw [← Int.pow_add]
      split
      · rename_i h
        rw [← Int.pow_succ]
        congr 1
        omega
      · rw [Int.mul_one]
        congr 1
        omega
    rw [← e]
    grind
theorem prodI_pos {g : Nat × Nat → Int} : ∀ {l : L}, (∀ x ∈ l, 0 < g x) → 0 < prodI g l
  | [], _ => (show (0 : Int) < 1 by decide)
  | x :: l, h => Int.mul_pos (h x (List.mem_cons_self ..)) (prodI_pos fun y hy => h y (List.mem_cons_of_mem _ hy))
/-- the totient of a prime power, by division -/
theorem phi_step {a r : Int} {p e : Nat} (hp : 0 < p) (he : 0 < e) : (a * ((p : Int) ^ e * r)).fdiv p * ((p : Int) - 1) = a * gPhi (p, e) * r := by
  obtain ⟨k, rfl⟩ : ∃ k, e = k + 1 := ⟨e - 1, by omega⟩
  have h : a * ((p : Int) ^ (k + 1) * r) = (p : Int) * (a * (p : Int) ^ k * r) := by rw [Int.pow_succ]; grind
  rw [h, Int.mul_fdiv_cancel_left _ (by omega)]
  unfold gPhi
  simp only [Nat.add_sub_cancel]
  rw [Int.pow_succ]
  grind
/-- the sign -/
theorem mu_all : ∀ l : L, prodI gMu l = if (l.any fun x => decide (x.2 > 1)) = true then 0 else if l.length % 2 = 0 then 1 else -1
  | [] => rfl
  | x :: l => by
    show gMu x * prodI gMu l = _
    rw [mu_all l, List.any_cons, List.length_cons]
    unfold gMu
    by_cases h : x.2 > 1
    · rw [if_pos h, decide_eq_true h, Bool.true_or, if_pos rfl, Int.zero_mul]
    · rw [if_neg h, decide_eq_false h, Bool.false_or]
      by_cases q : (l.any fun x => decide (x.2 > 1)) = true
      · rw [if_pos q, if_pos q]; rfl
      · rw [if_neg q, if_neg q]
        by_cases q2 : l.length % 2 = 0
        · rw [if_pos q2, if_neg (by omega)]; rfl
        · rw [if_neg q2, if_pos (by omega)]; rfl
/-! ### divisors -/
def expN (f : List Int) (x : Nat × Nat) (k : Nat) : List Int := (List.range k).flatMap fun j => f.map fun d => d * (x.1 : Int) ^ j
theorem expN_succ {f : List Int} {x : Nat × Nat} {k : Nat} : expN f x (k + 1) = expN f x k ++ f.map fun d => d * (x.1 : Int) ^ k := by
  unfold expN
  rw [List.range_succ, List.flatMap_append, List.flatMap_cons, List.flatMap_nil, List.append_nil]
theorem expN_one {f : List Int} {x : Nat × Nat} : expN f x 1 = f := by
  unfold expN
  simp
theorem expN_len {f : List Int} {x : Nat × Nat} : ∀ k, (expN f x k).length = k * f.length
  | 0 => by simp [expN]
  | k + 1 => by rw [expN_succ, List.length_append, expN_len k, List.length_map, Nat.succ_mul]
def expA (f : List Int) (x : Nat × Nat) : List Int := expN f x (x.2 + 1)
def dvs (l : L) : List Int := l.foldl expA [1]
theorem dvs_snoc {l : L} {x : Nat × Nat} : dvs (l ++ [x]) = expA (dvs l) x := by
  unfold dvs
  rw [List.foldl_append]
  rfl
def cntN : L → Nat
  | [] => 1
  | x :: l => (x.2 + 1) * cntN l
theorem cntN_append : ∀ {l l2 : L}, cntN (l ++ l2) = cntN l * cntN l2
  | [], l2 => (Nat.one_mul _).symm
  | x :: l, l2 => by
    show (x.2 + 1) * cntN (l ++ l2) = (x.2 + 1) * cntN l * cntN l2
    rw [cntN_append, Nat.mul_assoc]
theorem cntN_pos : ∀ l : L, 0 < cntN l
  | [] => Nat.one_pos
  | x :: l => Nat.mul_pos (Nat.succ_pos _) (cntN_pos l)
theorem cnt_int : ∀ l : L, prodI gCnt l = (cntN l : Nat)
  | [] => rfl
  | x :: l => by
    show gCnt x * prodI gCnt l = (((x.2 + 1) * cntN l : Nat) : Int)
    rw [cnt_int l, Int.natCast_mul]
    rfl
theorem foldl_len : ∀ (l : L) (f : List Int), (l.foldl expA f).length = cntN l * f.length
  | [], f => (Nat.one_mul _).symm
  | x :: l, f => by
    show (l.foldl expA (expA f x)).length = (x.2 + 1) * cntN l * f.length
    rw [foldl_len l]
    unfold expA
    rw [expN_len, ← Nat.mul_assoc, Nat.mul_comm (cntN l)]
theorem dvs_len (l : L) : (dvs l).length = cntN l := by
  unfold dvs
  rw [foldl_len]
  simp
theorem sum_mul (f : List Int) (c : Int) : (f.map fun d => d * c).sum = f.sum * c := by
  induction f with
  | nil => simp
  | cons d f ih => rw [List.map_cons, List.sum_cons, List.sum_cons, ih]; grind
theorem sum_app (a b : List Int) : (a ++ b).sum = a.sum + b.sum := by
  induction a with
  | nil => simp
  | cons x a ih => rw [List.cons_append, List.sum_cons, List.sum_cons, ih]; omega
theorem expN_sum {f : List Int} {x : Nat × Nat} : ∀ k, (expN f x k).sum = f.sum * (pws x k).sum
  | 0 => by simp [expN, pws]
  | k + 1 => by
    rw [expN_succ, sum_app, expN_sum k, sum_mul]
    unfold pws
    rw [List.range_succ, List.map_append, sum_app]
    simp
    grind
theorem foldl_sum : ∀ (l : L) (f : List Int), (l.foldl expA f).sum = f.sum * prodI gSig l
  | [], f => (Int.mul_one _).symm
  | x :: l, f => by
    show (l.foldl expA (expA f x)).sum = f.sum * (gSig x * prodI gSig l)
    rw [foldl_sum l]
    unfold expA gSig
    rw [expN_sum, Int.mul_assoc]
theorem dvs_sum (l : L) : (dvs l).sum = prodI gSig l := by
  unfold dvs
  rw [foldl_sum]
  simp
theorem perm_sum {a b : List Int} (h : a.Perm b) : a.sum = b.sum := by
  induction h with
  | nil => rfl
  | cons x _ ih => rw [List.sum_cons, List.sum_cons, ih]
  | swap x y l => rw [List.sum_cons, List.sum_cons, List.sum_cons, List.sum_cons]; omega
  | trans _ _ i1 i2 => rw [i1, i2]
/-! ### how many, at most -/
theorem sq4 {p e : Nat} (hp : 4 ≤ p) (he : 0 < e) : (e + 1) * (e + 1) ≤ p ^ e := by
  induction e with
  | zero => omega
  | succ e ih =>
    by_cases q : e = 0
    · subst q
      simpa using hp
    · have h1 := ih (by omega)
      rw [Nat.pow_succ]
      have h2 : (e + 1) * (e + 1) * 4 ≤ p ^ e * p := Nat.mul_le_mul h1 hp
      have h3 : (e + 2) * (e + 2) ≤ (2 * (e + 1)) * (2 * (e + 1)) := Nat.mul_le_mul (by omega) (by omega)
      have e3 : (2 * (e + 1)) * (2 * (e + 1)) = (e + 1) * (e + 1) * 4 := by grind
      have e4 : (e + 1 + 1) * (e + 1 + 1) = (e + 2) * (e + 2) := rfl
      omega
theorem sq2 {p e : Nat} (hp : 2 ≤ p) : (e + 1) * (e + 1) ≤ 4 * p ^ e := by
  have h0 : (e + 1) * (e + 1) ≤ 4 * 2 ^ e := by
    induction e with
    | zero => decide
    | succ e ih =>
      by_cases q : e < 2
      · match e, q with
        | 0, _ => decide
        | 1, _ => decide
      · rw [Nat.pow_succ]
        have h3 : (e + 2) * (e + 2) ≤ 2 * ((e + 1) * (e + 1)) := by
          obtain ⟨k, rfl⟩ : ∃ k, e = k + 2 := ⟨e - 2, by omega⟩
          have e1 : (k + 2 + 2) * (k + 2 + 2) = k * k + 8 * k + 16 := by grind
          have e2 : (k + 2 + 1) * (k + 2 + 1) = k * k + 6 * k + 9 := by grind
          rw [e1, e2]
          omega
        have e4 : (e + 1 + 1) * (e + 1 + 1) = (e + 2) * (e + 2) := rfl
        omega
  have := Nat.pow_le_pow_left hp e
  omega
theorem cnt_of4 : ∀ {l : L}, (∀ x ∈ l, 4 ≤ x.1 ∧ 0 < x.2) → cntN l * cntN l ≤ pf l
  | [], _ => Nat.le_refl _
  | x :: l, h => by
    have h1 := sq4 (h x (List.mem_cons_self ..)).1 (h x (List.mem_cons_self ..)).2
    have h2 := cnt_of4 (l := l) fun y hy => h y (List.mem_cons_of_mem _ hy)
    have h3 := Nat.mul_le_mul h1 h2
    show (x.2 + 1) * cntN l * ((x.2 + 1) * cntN l) ≤ x.1 ^ x.2 * pf l
    have e : (x.2 + 1) * cntN l * ((x.2 + 1) * cntN l) = (x.2 + 1) * (x.2 + 1) * (cntN l * cntN l) := by grind
    rw [e]
    exact h3
theorem cnt_cons {x : Nat × Nat} {l : L} {c : Nat} (hp : 2 ≤ x.1) (h : cntN l * cntN l ≤ c * pf l) : cntN (x :: l) * cntN (x :: l) ≤ 4 * c * pf (x :: l) := by
  have h1 := sq2 (e := x.2) hp
  have h3 := Nat.mul_le_mul h1 h
  show (x.2 + 1) * cntN l * ((x.2 + 1) * cntN l) ≤ 4 * c * (x.1 ^ x.2 * pf l)
  have e : (x.2 + 1) * cntN l * ((x.2 + 1) * cntN l) = (x.2 + 1) * (x.2 + 1) * (cntN l * cntN l) := by grind
  have e2 : 4 * c * (x.1 ^ x.2 * pf l) = 4 * x.1 ^ x.2 * (c * pf l) := by grind
  rw [e, e2]
  exact h3
theorem cnt_of3 {l : L} (h : ∀ x ∈ l, 3 ≤ x.1 ∧ 0 < x.2) (hs : l.Pairwise fun x y => x.1 < y.1) : cntN l * cntN l ≤ 4 * pf l := by
  match l, h, hs with
  | [], _, _ => decide
  | x :: l, h, hs =>
    have h1 := List.pairwise_cons.mp hs
    have hx := (h x (List.mem_cons_self ..)).1
    exact cnt_cons (c := 1) (by omega) (by
      rw [Nat.one_mul]
      exact cnt_of4 fun y hy => ⟨by have := h1.1 y hy; omega, (h y (List.mem_cons_of_mem _ hy)).2⟩)
theorem cnt_of2 {l : L} (h : ∀ x ∈ l, 2 ≤ x.1 ∧ 0 < x.2) (hs : l.Pairwise fun x y => x.1 < y.1) : cntN l * cntN l ≤ 16 * pf l := by
  match l, h, hs with
  | [], _, _ => decide
  | x :: l, h, hs =>
    have h1 := List.pairwise_cons.mp hs
    have hx := (h x (List.mem_cons_self ..)).1
    exact cnt_cons (c := 4) (by omega) (cnt_of3 (fun y hy => ⟨by have := h1.1 y hy; omega, (h y (List.mem_cons_of_mem _ hy)).2⟩) h1.2)
structure Fc (n : Nat) (l : L) : Prop where
  ok : Ok l
  pf : pf l = n
  so : l.Pairwise fun x y => x.1 < y.1
theorem fac_fc {n : Nat} (h0 : 0 < n) (h : n ≤ 10 ^ 10) : Fc n (fac n) := by
  obtain ⟨a, b, c⟩ := fac_ok h0 h
  exact ⟨a, b, c⟩
theorem Fc.cnt {n : Nat} {l : L} (h : Fc n l) (hn : n ≤ 10 ^ 10) : cntN l ≤ 400000 := by
  have h1 := cnt_of2 (fun x hx => ⟨(h.ok.pr x hx).1.1, (h.ok.pr x hx).2⟩) h.so
  rw [h.pf] at h1
  apply Nat.le_of_not_lt
  intro q
  have := Nat.mul_le_mul (show 400001 ≤ cntN l by omega) (show 400001 ≤ cntN l by omega)
  omega
theorem two_len : ∀ {l : L}, Ok l → 2 ^ l.length ≤ Nf.pf l
  | [], _ => Nat.le_refl _
  | x :: l, h => by
    have h1 := two_len h.tail
    have hx := h.pr x (List.mem_cons_self ..)
    rw [List.length_cons, Nat.pow_succ, Nat.mul_comm]
    refine Nat.mul_le_mul ?_ h1
    have h2 := Nat.pow_le_pow_right (n := x.1) (by have := hx.1.1; omega) (show 1 ≤ x.2 from hx.2)
    rw [Nat.pow_one] at h2
    have := hx.1.1
    omega
theorem Fc.len {n : Nat} {l : L} (h : Fc n l) (hn : n ≤ 10 ^ 10) : l.length ≤ 33 := by
  have h1 := two_len h.ok
  rw [h.pf] at h1
  apply Nat.le_of_not_lt
  intro q
  have := Nat.pow_le_pow_right (n := 2) (by decide) (show 34 ≤ l.length by omega)
  have e : 2 ^ 34 = 17179869184 := by decide
  omega
theorem Fc.pow {n : Nat} {l : L} (h : Fc n l) (hn : n ≤ 10 ^ 10) {x : Nat × Nat} (hx : x ∈ l) : x.1 ^ x.2 ≤ 10 ^ 10 ∧ 2 ≤ x.1 ∧ x.1 ≤ 10 ^ 10 ∧ 1 ≤ x.2 ∧ x.2 ≤ 33 := by
  have h0 := h.ok.pos
  have hd := Nat.le_of_dvd h0 (pow_of (p := x.1) (e := x.2) h.ok hx).1
  rw [h.pf] at hd
  have hp := h.ok.pr x hx
  have h2 := hp.1.1
  have h3 := Nat.pow_le_pow_right (n := x.1) (by omega) (show 1 ≤ x.2 from hp.2)
  rw [Nat.pow_one] at h3
  refine ⟨by omega, by omega, by omega, hp.2, ?_⟩
  apply Nat.le_of_not_lt
  intro q
  have h4 := Nat.pow_le_pow_right (n := 2) (by decide) (show 34 ≤ x.2 by omega)
  have h5 := Nat.pow_le_pow_left (show 2 ≤ x.1 by omega) x.2
  have e : 2 ^ 34 = 17179869184 := by decide
  omega
theorem Fc.part {n : Nat} {l l2 : L} {x : Nat × Nat} (h : Fc n (l ++ x :: l2)) (hn : n ≤ 10 ^ 10) : cntN l * (x.2 + 1) ≤ 400000 := by
  have h1 := h.cnt hn
  rw [cntN_append] at h1
  have h2 : cntN l * (x.2 + 1) ≤ cntN l * cntN (x :: l2) := Nat.mul_le_mul_left _ (by
    show x.2 + 1 ≤ (x.2 + 1) * cntN l2
    exact Nat.le_mul_of_pos_right _ (cntN_pos l2))
  omega
/-! ### in order -/
def ins (x : Int) : List Int → List Int
  | [] => [x]
  | y :: l => if x ≤ y then x :: y :: l else y :: ins x l
def isort : List Int → List Int
  | [] => []
  | x :: l => ins x (isort l)
theorem ins_perm (x : Int) : ∀ l : List Int, (ins x l).Perm (x :: l)
  | [] => List.Perm.refl _
  | y :: l => by
    unfold ins
    split
    · exact List.Perm.refl _
    · exact ((ins_perm x l).cons y).trans (List.Perm.swap x y l)
theorem ins_sorted (x : Int) : ∀ l : List Int, l.Pairwise (· ≤ ·) → (ins x l).Pairwise (· ≤ ·)
  | [], _ => List.pairwise_singleton ..
  | y :: l, h => by
    have h1 := List.pairwise_cons.mp h
    unfold ins
    split
    · rename_i q
      rw [List.pairwise_cons]
      refine ⟨fun z hz => ?_, h⟩
      rcases List.mem_cons.mp hz with rfl | hz
      · exact q
      · exact Int.le_trans q (h1.1 z hz)
    · rename_i q
      rw [List.pairwise_cons]
      refine ⟨fun z hz => ?_, ins_sorted x l h1.2⟩
      rcases List.mem_cons.mp ((ins_perm x l).mem_iff.mp hz) with rfl | hz
      · omega
      · exact h1.1 z hz
theorem isort_perm : ∀ l : List Int, (isort l).Perm l
  | [] => List.Perm.refl _
  | x :: l => (ins_perm x (isort l)).trans ((isort_perm l).cons x)
theorem isort_sorted : ∀ l : List Int, (isort l).Pairwise (· ≤ ·)
  | [] => List.Pairwise.nil
  | x :: l => ins_sorted x _ (isort_sorted l)
theorem isort_uniq {l m : List Int} (p : m.Perm l) (h : m.Pairwise (· ≤ ·)) : m = isort l :=
  List.Perm.eq_of_pairwise (fun a b _ _ h1 h2 => by omega) h (isort_sorted l) (p.trans (isort_perm l).symm)
/-! ### two numbers without a common divisor -/
theorem fac_mul {m n : Nat} (m0 : 0 < m) (n0 : 0 < n) (hm : m ≤ 10 ^ 10) (hn : n ≤ 10 ^ 10) (hmn : m * n ≤ 10 ^ 10) (h : Nat.Coprime m n) : (fac m ++ fac n).Perm (fac (m * n)) := by
  have a := fac_fc m0 hm
  have b := fac_fc n0 hn
  have c := fac_fc (Nat.mul_pos m0 n0) hmn
  refine ok_perm (ok_append a.ok b.ok (by rw [a.pf, b.pf]; exact h)) c.ok ?_
  rw [pf_append, a.pf, b.pf, c.pf]
/-! ### as data -/
abbrev dP (x : Nat × Nat) : PyData := .tuple [.int (x.1 : Nat), .int (x.2 : Nat)]
theorem eqv_dP (x y : Nat × Nat) : PyData.eqv (dP x) (dP y) = decide (x = y) := by
  have h : PyData.eqv (dP x) (dP y) = ((x.1 : Int) == (y.1 : Int) && (x.2 : Int) == (y.2 : Int)) := by
    simp only [eqv_t, eqv_cons, eqv_nil, eqv_i, Bool.and_true]
  rw [h, Bool.eq_iff_iff, Bool.and_eq_true, beq_iff_eq, beq_iff_eq, decide_eq_true_eq]
  constructor
  · rintro ⟨h1, h2⟩
    exact Prod.ext (by omega) (by omega)
  · rintro rfl
    exact ⟨rfl, rfl⟩
theorem flat_dP (x : Nat × Nat) : flat (dP x) = [(x.1 : Int), (x.2 : Int)] := by simp [flat, flats]
end Nf
end DL

set_option Elab.async false
set_option linter.all false
set_option maxRecDepth 100000
set_option maxHeartbeats 0
set_option exponentiation.threshold 4000
namespace K03
open PySem PySem.Spec PyProof.Rows L2 DL
local macro_rules | `(tactic| walk_at "bd") => `(tactic| repeat' (first
  | with_reducible assumption
  | with_reducible apply Bd.add
  | with_reducible apply Bd.sub
  | with_reducible apply Bd.mul
  | with_reducible apply Bd.neg
  | with_reducible apply Bd.fdiv
  | ((with_reducible apply Bd.fmod); (focus (first | decide | omega)))
  | with_reducible apply Bd.abs
  | exact Bd.lit (by decide) (by decide)
  | exact Bd.lit (by omega) (by omega)
  | exact Bd.lit2 (by decide) (by decide)))
local macro_rules | `(tactic| walk_at "pl") => `(tactic| first
  | with_reducible exact plN
  | ((with_reducible refine plC ?_ ?_); (focus (first | exact (show plainSl _ from True.intro) | exact (show plainSl _ from by assumption))); walk_at "pl"))
local macro_rules | `(tactic| walk_at "fl") => `(tactic| first
  | with_reducible exact flN
  | ((with_reducible refine flC ?_ ?_); (focus (first | exact (show freeSl _ from True.intro) | exact (show freeSl _ from by assumption))); walk_at "fl"))
local macro_rules | `(tactic| walk_at "s") => `(tactic| first
  | exact (show hasSl _ _ from True.intro)
  | exact (show freeSl _ from True.intro)
  | exact (show stillW _ _ from True.intro)
  | exact (show stillW _ _ from rfl)
  | exact (show freeSl _ from by assumption)
  | walk_at "pl"
  | walk_at "fl"
  | ((with_reducible apply mulR); exact Bd.lit (by decide) (by decide))
  | ((with_reducible apply mulL); exact Bd.lit (by decide) (by decide))
  | ((with_reducible apply mulOk); (focus (walk_at "bd")); (focus (walk_at "bd")); (focus (decide)))
  | exact (show CPow _ _ from ⟨by decide, by decide, by decide⟩)
  | ((with_reducible apply divOk) <;> first | decide | assumption | omega)
  | with_reducible assumption
  | exact ⟨rfl, rfl⟩
  | exact Nat.le_of_ble_eq_true rfl
  | exact of_decide_eq_true rfl
  | rfl
  | decide
  | omega)
local macro_rules | `(tactic| walk_at "ev") => `(tactic| first
  | exact ev_nil rfl
  | ((apply ev_cons); (focus (exact rfl)); (focus (conv => lhs; whnf)); walk_at "ev"))
local macro_rules | `(tactic| walk_at "bl") => `(tactic| first
  | exact bl_nil rfl
  | ((apply bl_cons); (focus (exact rfl)); (focus (conv => lhs; whnf)); walk_at "bl"))
local macro_rules | `(tactic| walk_at "gO") => `(tactic| first
  | ((with_reducible apply r_oV); (focus (walk_at "s")); walk_at "w")
  | ((with_reducible apply r_oE); (focus (exact rfl)); walk_at "w"))
local macro_rules | `(tactic| walk_at "gP") => `(tactic| first
  | ((with_reducible apply r_lend); (focus (exact rfl)); (focus (walk_at "ev")); walk_at "w")
  | ((with_reducible apply r_oP); (focus (exact rfl)); walk_at "w"))
local macro_rules | `(tactic| walk_at "gE") => `(tactic| first
  | ((with_reducible apply r_bin); walk_at "w")
  | ((with_reducible apply r_ix); walk_at "w")
  | ((with_reducible apply r_c); walk_at "w")
  | ((with_reducible apply r_vv); (focus (exact rfl)); walk_at "w")
  | ((with_reducible apply r_call); (focus (walk_at "bl")); walk_at "w")
  | ((with_reducible apply r_tup); walk_at "w")
  | ((with_reducible apply r_lst); walk_at "w")
  | ((with_reducible apply r_g); walk_at "w")
  | ((with_reducible apply r_neg); walk_at "w")
  | ((with_reducible apply r_cmp); walk_at "w")
  | ((with_reducible apply r_chain); walk_at "w")
  | ((with_reducible apply r_chain3); walk_at "w")
  | ((with_reducible apply r_isc); walk_at "w")
  | ((with_reducible apply r_and); walk_at "w")
  | ((with_reducible apply r_or); walk_at "w")
  | ((with_reducible apply r_not); walk_at "w")
  | ((with_reducible apply r_ite); walk_at "w")
  | ((with_reducible apply r_sl); walk_at "w")
  | ((with_reducible apply r_rev); walk_at "w")
  | ((with_reducible apply r_isi); walk_at "w")
  | ((with_reducible apply r_bi2); walk_at "w")
  | ((with_reducible apply r_lc); walk_at "w")
  | ((with_reducible apply r_list); walk_at "w")
  | ((with_reducible apply r_vo); (focus (exact rfl)); walk_at "w")
  | ((with_reducible apply r_vs); (focus (exact rfl)); walk_at "w")
  | ((with_reducible apply r_bi1); (focus (decide)); walk_at "w"))
local macro_rules | `(tactic| walk_at "gT") => `(tactic| first
  | ((with_reducible apply t_cmp); walk_at "w")
  | ((with_reducible apply t_and); walk_at "w")
  | ((with_reducible apply t_or); walk_at "w")
  | ((with_reducible apply t_not); walk_at "w")
  | ((with_reducible apply t_chain); walk_at "w")
  | ((with_reducible apply t_chain3); walk_at "w")
  | ((with_reducible apply t_isc); walk_at "w")
  | ((with_reducible apply t_isi); walk_at "w")
  | ((with_reducible apply t_bi1); walk_at "w")
  | ((with_reducible apply t_ix); walk_at "w")
  | ((with_reducible apply t_call); walk_at "w")
  | ((with_reducible apply t_bin); walk_at "w")
  | ((with_reducible apply t_v); (focus (exact rfl)); walk_at "w"))
local macro_rules | `(tactic| walk_at "gS") => `(tactic| first
  | ((with_reducible apply s_asg); walk_at "w")
  | ((with_reducible apply s_asgT); walk_at "w")
  | ((with_reducible apply s_par); walk_at "w")
  | ((with_reducible apply s_ex); walk_at "w")
  | ((with_reducible apply s_ite); walk_at "w")
  | ((with_reducible apply s_ret); (focus (exact rfl)); walk_at "w")
  | ((with_reducible apply s_ret0); walk_at "w")
  | ((with_reducible apply s_whl); walk_at "w")
  | ((with_reducible apply s_for); walk_at "w")
  | ((with_reducible apply s_pass); walk_at "w")
  | ((with_reducible apply s_brk); walk_at "w")
  | ((with_reducible apply s_cnt); walk_at "w")
  | ((with_reducible apply s_retV); (focus (exact rfl)); walk_at "w")
  | ((with_reducible apply s_retO); (focus (exact rfl)); walk_at "w")
  | ((with_reducible apply s_set); (focus (exact rfl)); walk_at "w")
  | ((with_reducible apply s_app); (focus (exact rfl)); walk_at "w"))
local macro_rules | `(tactic| walk_at "gSs") => `(tactic| first
  | ((with_reducible apply ss_cons); walk_at "w")
  | ((with_reducible apply ss_nil); walk_at "w"))
local macro_rules | `(tactic| walk_at "gBin") => `(tactic| first
  | ((with_reducible apply o_addI); walk_at "w")
  | ((with_reducible apply o_mulI); (focus (walk_at "s")); walk_at "w")
  | ((with_reducible apply o_subI); walk_at "w")
  | ((with_reducible apply o_fdivI); (focus (walk_at "s")); walk_at "w")
  | ((with_reducible apply o_modI); (focus (walk_at "s")); walk_at "w")
  | ((with_reducible apply o_powI); (focus (walk_at "s")); walk_at "w")
  | ((with_reducible apply o_addL); (focus (walk_at "s")); walk_at "w")
  | ((with_reducible apply o_addT); (focus (walk_at "s")); walk_at "w")
  | ((with_reducible apply o_mulT); (focus (exact ⟨(fun h => by cases h), by decide, by decide, by decide⟩)); walk_at "w")
  | ((with_reducible apply o_mulL); (focus (first | exact ⟨by decide, by decide, by decide⟩ | exact ⟨by omega, by omega, by simp; omega⟩)); walk_at "w"))
local macro_rules | `(tactic| walk_at "gCmp") => `(tactic| first
  | ((with_reducible apply o_eqI); walk_at "w")
  | ((with_reducible apply o_neI); walk_at "w")
  | ((with_reducible apply o_ltI); walk_at "w")
  | ((with_reducible apply o_leI); walk_at "w")
  | ((with_reducible apply o_gtI); walk_at "w")
  | ((with_reducible apply o_geI); walk_at "w")
  | ((with_reducible apply o_eq); (focus (walk_at "s")); walk_at "w")
  | ((with_reducible apply o_ne); (focus (walk_at "s")); walk_at "w")
  | ((with_reducible apply o_inT); (focus (walk_at "s")); walk_at "w")
  | ((with_reducible apply o_ninT); (focus (walk_at "s")); walk_at "w")
  | ((with_reducible apply o_inL); (focus (walk_at "s")); walk_at "w")
  | ((with_reducible apply o_ninL); (focus (walk_at "s")); walk_at "w"))
local macro_rules | `(tactic| walk_at "gTru") => `(tactic| first
  | ((with_reducible apply o_truB); walk_at "w")
  | ((with_reducible apply o_truI); walk_at "w")
  | ((with_reducible apply o_truL); walk_at "w")
  | ((with_reducible apply o_truT); walk_at "w")
  | ((with_reducible apply o_truN); walk_at "w"))
local macro_rules | `(tactic| walk_at "gBi1") => `(tactic| first
  | ((with_reducible apply o_lenL); walk_at "w")
  | ((with_reducible apply o_lenT); walk_at "w")
  | ((with_reducible apply o_abs); walk_at "w")
  | ((with_reducible apply o_int); walk_at "w")
  | ((with_reducible apply o_listL); walk_at "w")
  | ((with_reducible apply o_listT); walk_at "w")
  | ((with_reducible apply o_tupL); walk_at "w")
  | ((with_reducible apply o_tupT); walk_at "w"))
local macro_rules | `(tactic| walk_at "gStp") => `(tactic| first
  | ((with_reducible apply dx_list); (focus (exact rfl)); walk_at "w")
  | ((with_reducible apply dx_tup); (focus (exact rfl)); walk_at "w")
  | ((with_reducible apply ss_go); walk_at "w")
  | walk_at "k")
local macro_rules | `(tactic| walk_at "gBr") => `(tactic| first
  | ((with_reducible refine brT ?_ ?_); (focus (exact rfl)); walk_at "w")
  | ((with_reducible refine brF ?_ ?_); (focus (exact rfl)); walk_at "w"))
local macro_rules | `(tactic| walk_at "w") => `(tactic| first
  | ((with_reducible apply gO); walk_at "gO")
  | ((with_reducible apply gP); walk_at "gP")
  | ((with_reducible apply gE); walk_at "gE")
  | ((with_reducible apply r_at); (focus (walk_at "ev")); walk_at "w")
  | ((with_reducible apply r_oD); walk_at "w")
  | ((with_reducible refine And.intro ?_ ?_); (focus (walk_at "s")); walk_at "w")
  | ((with_reducible apply gSs); walk_at "gSs")
  | ((with_reducible apply gS); walk_at "gS")
  | ((with_reducible apply gT); walk_at "gT")
  | ((with_reducible apply gBin); walk_at "gBin")
  | ((with_reducible apply gCmp); walk_at "gCmp")
  | ((with_reducible apply gTru); walk_at "gTru")
  | ((with_reducible apply gBr); walk_at "gBr")
  | ((with_reducible apply gStp); walk_at "gStp")
  | ((with_reducible apply es_cons); walk_at "w")
  | ((with_reducible apply es_nil); walk_at "w")
  | ((with_reducible apply as_nil); walk_at "w")
  | ((with_reducible apply as_val); walk_at "w")
  | ((with_reducible apply as_ref); (focus (walk_at "s")); walk_at "w")
  | ((with_reducible apply gBi1); walk_at "gBi1")
  | ((with_reducible apply b_n); (focus (walk_at "s")); walk_at "w")
  | ((with_reducible apply b_t); walk_at "w")
  | ((with_reducible apply bs_cons); walk_at "w")
  | ((with_reducible apply bs_nil); walk_at "w")
  | ((with_reducible apply rs_cons); walk_at "w")
  | ((with_reducible apply rs_nil); walk_at "w")
  | ((with_reducible apply Rt_go); (focus (with_reducible assumption)); (focus (walk_at "ev")); walk_at "w")
  | ((with_reducible apply wl_succ); walk_at "w")
  | ((with_reducible apply it_e); walk_at "w")
  | ((with_reducible apply it_rng1); walk_at "w")
  | ((with_reducible apply it_rng2); walk_at "w")
  | ((with_reducible apply it_zip); walk_at "w")
  | ((with_reducible apply zip_l); walk_at "w")
  | ((with_reducible apply zip_t); walk_at "w")
  | ((with_reducible apply it_enum); walk_at "w")
  | ((with_reducible apply enu_l); walk_at "w")
  | ((with_reducible apply to_som); walk_at "w")
  | ((with_reducible apply to_non); walk_at "w")
  | ((with_reducible apply eo_som); walk_at "w")
  | ((with_reducible apply eo_non); walk_at "w")
  | ((with_reducible apply wf_cons); (focus (walk_at "s")); walk_at "w")
  | ((with_reducible apply wf_nil); (focus (walk_at "s")); walk_at "w")
  | ((with_reducible apply wc_cons); (focus (walk_at "s")); walk_at "w")
  | ((with_reducible apply wc_nil); (focus (walk_at "s")); walk_at "w")
  | ((with_reducible apply r_lstS); (focus (exact rfl)); walk_at "w")
  | ((with_reducible apply r_lstN); (focus (exact rfl)); walk_at "w")
  | ((with_reducible apply o_isNN); walk_at "w")
  | ((with_reducible apply o_isN); (focus (exact rfl)); walk_at "w")
  | ((with_reducible apply o_isB); walk_at "w")
  | ((with_reducible apply o_max2); walk_at "w")
  | ((with_reducible apply o_min2); walk_at "w")
  | ((with_reducible apply o_slL); walk_at "w")
  | ((with_reducible apply o_slT); walk_at "w")
  | ((with_reducible apply o_revL); walk_at "w")
  | ((with_reducible apply set_go); (focus (exact rfl)); (focus (decide)); (focus (exact rfl)); walk_at "w")
  | ((with_reducible apply app_go); (focus (exact rfl)); (focus (decide)); (focus (walk_at "s")); walk_at "w")
  | skip)
local macro_rules | `(tactic| walk_at "f") => `(tactic| (conv => whnf); first
  | exact True.intro
  | ((refine And.intro True.intro ?_); walk_at "f"))
local macro_rules | `(tactic| walk_at "c") => `(tactic| (apply enterR); (focus (exact rfl)); (focus (walk_at "f")); (focus (walk_at "ev")); (focus ((intro R hR); walk_at "w")))
local macro_rules | `(tactic| walk_at "o") => `(tactic| (first | with_reducible apply wc_openI | with_reducible apply wc_openV | with_reducible apply wf_openI | with_reducible apply wf_openV); (focus (walk_at "ev")); walk_at "w")
local macro_rules | `(tactic| walk_at "p") => `(tactic| (first | with_reducible apply wc_keepI | with_reducible apply wc_keepV | with_reducible apply wf_keepI | with_reducible apply wf_keepV); (focus (walk_at "ev")))
local macro_rules | `(tactic| walk_at "k") => `(tactic| fail "no spec")
local macro_rules | `(tactic| walk_at "lx") => `(tactic| first
  | exact lv_nil rfl
  | ((apply lv_cons); (focus (exact rfl)); (focus (conv => lhs; whnf)); walk_at "lx"))
local macro_rules | `(tactic| walk_at "oo") => `(tactic| (first | with_reducible apply wc_openLI | with_reducible apply wc_openLV | with_reducible apply wf_openLI | with_reducible apply wf_openLV); (focus (walk_at "ev")); (focus (walk_at "lx")); walk_at "w")
local macro_rules | `(tactic| walk_at "uO") => `(tactic| first
  | ((with_reducible apply r_oV); (focus (walk_at "s")); walk_at "u")
  | ((with_reducible apply r_oE); (focus (exact rfl)); walk_at "u"))
local macro_rules | `(tactic| walk_at "uP") => `(tactic| first
  | ((with_reducible apply r_lend); (focus (exact rfl)); (focus (walk_at "ev")); walk_at "u")
  | ((with_reducible apply r_oP); (focus (exact rfl)); walk_at "u"))
local macro_rules | `(tactic| walk_at "uE") => `(tactic| first
  | ((with_reducible apply r_bin); walk_at "u")
  | ((with_reducible apply r_ix); walk_at "u")
  | ((with_reducible apply r_c); walk_at "u")
  | ((with_reducible apply r_vv); (focus (exact rfl)); walk_at "u")
  | ((with_reducible apply r_call); (focus (walk_at "bl")); walk_at "u")
  | ((with_reducible apply r_tup); walk_at "u")
  | ((with_reducible apply r_lst); walk_at "u")
  | ((with_reducible apply r_g); walk_at "u")
  | ((with_reducible apply r_neg); walk_at "u")
  | ((with_reducible apply r_cmp); walk_at "u")
  | ((with_reducible apply r_chain); walk_at "u")
  | ((with_reducible apply r_chain3); walk_at "u")
  | ((with_reducible apply r_isc); walk_at "u")
  | ((with_reducible apply r_and); walk_at "u")
  | ((with_reducible apply r_or); walk_at "u")
  | ((with_reducible apply r_not); walk_at "u")
  | ((with_reducible apply r_ite); walk_at "u")
  | ((with_reducible apply r_sl); walk_at "u")
  | ((with_reducible apply r_rev); walk_at "u")
  | ((with_reducible apply r_isi); walk_at "u")
  | ((with_reducible apply r_bi2); walk_at "u")
  | ((with_reducible apply r_lc); walk_at "u")
  | ((with_reducible apply r_list); walk_at "u")
  | ((with_reducible apply r_vo); (focus (exact rfl)); walk_at "u")
  | ((with_reducible apply r_vs); (focus (exact rfl)); walk_at "u")
  | ((with_reducible apply r_bi1); (focus (decide)); walk_at "u"))
local macro_rules | `(tactic| walk_at "uT") => `(tactic| first
  | ((with_reducible apply t_cmp); walk_at "u")
  | ((with_reducible apply t_and); walk_at "u")
  | ((with_reducible apply t_or); walk_at "u")
  | ((with_reducible apply t_not); walk_at "u")
  | ((with_reducible apply t_chain); walk_at "u")
  | ((with_reducible apply t_chain3); walk_at "u")
  | ((with_reducible apply t_isc); walk_at "u")
  | ((with_reducible apply t_isi); walk_at "u")
  | ((with_reducible apply t_bi1); walk_at "u")
  | ((with_reducible apply t_ix); walk_at "u")
  | ((with_reducible apply t_call); walk_at "u")
  | ((with_reducible apply t_bin); walk_at "u")
  | ((with_reducible apply t_v); (focus (exact rfl)); walk_at "u"))
local macro_rules | `(tactic| walk_at "uS") => `(tactic| first
  | ((with_reducible apply s_asg); walk_at "u")
  | ((with_reducible apply s_asgT); walk_at "u")
  | ((with_reducible apply s_par); walk_at "u")
  | ((with_reducible apply s_ex); walk_at "u")
  | ((with_reducible apply s_ite); walk_at "u")
  | ((with_reducible apply s_ret); (focus (exact rfl)); walk_at "u")
  | ((with_reducible apply s_ret0); walk_at "u")
  | ((with_reducible apply s_whl); walk_at "u")
  | ((with_reducible apply s_for); walk_at "u")
  | ((with_reducible apply s_pass); walk_at "u")
  | ((with_reducible apply s_brk); walk_at "u")
  | ((with_reducible apply s_cnt); walk_at "u")
  | ((with_reducible apply s_retV); (focus (exact rfl)); walk_at "u")
  | ((with_reducible apply s_retO); (focus (exact rfl)); walk_at "u")
  | ((with_reducible apply s_set); (focus (exact rfl)); walk_at "u")
  | ((with_reducible apply s_app); (focus (exact rfl)); walk_at "u"))
local macro_rules | `(tactic| walk_at "uSs") => `(tactic| first
  | ((with_reducible apply ss_cons); walk_at "u")
  | ((with_reducible apply ss_nil); walk_at "u"))
local macro_rules | `(tactic| walk_at "uBin") => `(tactic| first
  | ((with_reducible apply o_addI); walk_at "u")
  | ((with_reducible apply o_mulI); (focus (walk_at "s")); walk_at "u")
  | ((with_reducible apply o_subI); walk_at "u")
  | ((with_reducible apply o_fdivI); (focus (walk_at "s")); walk_at "u")
  | ((with_reducible apply o_modI); (focus (walk_at "s")); walk_at "u")
  | ((with_reducible apply o_powI); (focus (walk_at "s")); walk_at "u")
  | ((with_reducible apply o_addL); (focus (walk_at "s")); walk_at "u")
  | ((with_reducible apply o_addT); (focus (walk_at "s")); walk_at "u")
  | ((with_reducible apply o_mulT); (focus (exact ⟨(fun h => by cases h), by decide, by decide, by decide⟩)); walk_at "u")
  | ((with_reducible apply o_mulL); (focus (first | exact ⟨by decide, by decide, by decide⟩ | exact ⟨by omega, by omega, by simp; omega⟩)); walk_at "u"))
local macro_rules | `(tactic| walk_at "uCmp") => `(tactic| first
  | ((with_reducible apply o_eqI); walk_at "u")
  | ((with_reducible apply o_neI); walk_at "u")
  | ((with_reducible apply o_ltI); walk_at "u")
  | ((with_reducible apply o_leI); walk_at "u")
  | ((with_reducible apply o_gtI); walk_at "u")
  | ((with_reducible apply o_geI); walk_at "u")
  | ((with_reducible apply o_eq); (focus (walk_at "s")); walk_at "u")
  | ((with_reducible apply o_ne); (focus (walk_at "s")); walk_at "u")
  | ((with_reducible apply o_inT); (focus (walk_at "s")); walk_at "u")
  | ((with_reducible apply o_ninT); (focus (walk_at "s")); walk_at "u")
  | ((with_reducible apply o_inL); (focus (walk_at "s")); walk_at "u")
  | ((with_reducible apply o_ninL); (focus (walk_at "s")); walk_at "u"))
local macro_rules | `(tactic| walk_at "uTru") => `(tactic| first
  | ((with_reducible apply o_truB); walk_at "u")
  | ((with_reducible apply o_truI); walk_at "u")
  | ((with_reducible apply o_truL); walk_at "u")
  | ((with_reducible apply o_truT); walk_at "u")
  | ((with_reducible apply o_truN); walk_at "u"))
local macro_rules | `(tactic| walk_at "uBi1") => `(tactic| first
  | ((with_reducible apply o_lenL); walk_at "u")
  | ((with_reducible apply o_lenT); walk_at "u")
  | ((with_reducible apply o_abs); walk_at "u")
  | ((with_reducible apply o_int); walk_at "u")
  | ((with_reducible apply o_listL); walk_at "u")
  | ((with_reducible apply o_listT); walk_at "u")
  | ((with_reducible apply o_tupL); walk_at "u")
  | ((with_reducible apply o_tupT); walk_at "u"))
local macro_rules | `(tactic| walk_at "uStp") => `(tactic| first
  | ((with_reducible apply dx_list); (focus (exact rfl)); walk_at "u")
  | ((with_reducible apply dx_tup); (focus (exact rfl)); walk_at "u")
  | walk_at "ku")
local macro_rules | `(tactic| walk_at "uBr") => `(tactic| first
  | ((with_reducible refine brT ?_ ?_); (focus (exact rfl)); walk_at "u")
  | ((with_reducible refine brF ?_ ?_); (focus (exact rfl)); walk_at "u"))
local macro_rules | `(tactic| walk_at "u") => `(tactic| first
  | ((with_reducible apply gO); walk_at "uO")
  | ((with_reducible apply gP); walk_at "uP")
  | ((with_reducible apply gE); walk_at "uE")
  | ((with_reducible apply r_at); (focus (walk_at "ev")); walk_at "u")
  | ((with_reducible apply r_oD); walk_at "u")
  | ((with_reducible refine And.intro ?_ ?_); (focus (walk_at "s")); walk_at "u")
  | ((with_reducible apply gSs); walk_at "uSs")
  | ((with_reducible apply gS); walk_at "uS")
  | ((with_reducible apply gT); walk_at "uT")
  | ((with_reducible apply gBin); walk_at "uBin")
  | ((with_reducible apply gCmp); walk_at "uCmp")
  | ((with_reducible apply gTru); walk_at "uTru")
  | ((with_reducible apply gBr); walk_at "uBr")
  | ((with_reducible apply gStp); walk_at "uStp")
  | ((with_reducible apply es_cons); walk_at "u")
  | ((with_reducible apply es_nil); walk_at "u")
  | ((with_reducible apply as_nil); walk_at "u")
  | ((with_reducible apply as_val); walk_at "u")
  | ((with_reducible apply as_ref); (focus (walk_at "s")); walk_at "u")
  | ((with_reducible apply gBi1); walk_at "uBi1")
  | ((with_reducible apply b_n); (focus (walk_at "s")); walk_at "u")
  | ((with_reducible apply b_t); walk_at "u")
  | ((with_reducible apply bs_cons); walk_at "u")
  | ((with_reducible apply bs_nil); walk_at "u")
  | ((with_reducible apply rs_cons); walk_at "u")
  | ((with_reducible apply rs_nil); walk_at "u")
  | ((with_reducible apply Rt_go); (focus (with_reducible assumption)); (focus (walk_at "ev")); walk_at "u")
  | ((with_reducible apply wl_succ); walk_at "u")
  | ((with_reducible apply it_e); walk_at "u")
  | ((with_reducible apply it_rng1); walk_at "u")
  | ((with_reducible apply it_rng2); walk_at "u")
  | ((with_reducible apply it_zip); walk_at "u")
  | ((with_reducible apply zip_l); walk_at "u")
  | ((with_reducible apply zip_t); walk_at "u")
  | ((with_reducible apply it_enum); walk_at "u")
  | ((with_reducible apply enu_l); walk_at "u")
  | ((with_reducible apply to_som); walk_at "u")
  | ((with_reducible apply to_non); walk_at "u")
  | ((with_reducible apply eo_som); walk_at "u")
  | ((with_reducible apply eo_non); walk_at "u")
  | ((with_reducible apply wf_cons); (focus (walk_at "s")); walk_at "u")
  | ((with_reducible apply wf_nil); (focus (walk_at "s")); walk_at "u")
  | ((with_reducible apply wc_cons); (focus (walk_at "s")); walk_at "u")
  | ((with_reducible apply wc_nil); (focus (walk_at "s")); walk_at "u")
  | ((with_reducible apply r_lstS); (focus (exact rfl)); walk_at "u")
  | ((with_reducible apply r_lstN); (focus (exact rfl)); walk_at "u")
  | ((with_reducible apply o_isNN); walk_at "u")
  | ((with_reducible apply o_isN); (focus (exact rfl)); walk_at "u")
  | ((with_reducible apply o_isB); walk_at "u")
  | ((with_reducible apply o_max2); walk_at "u")
  | ((with_reducible apply o_min2); walk_at "u")
  | ((with_reducible apply o_slL); walk_at "u")
  | ((with_reducible apply o_slT); walk_at "u")
  | ((with_reducible apply o_revL); walk_at "u")
  | ((with_reducible apply set_go); (focus (exact rfl)); (focus (decide)); (focus (exact rfl)); walk_at "u")
  | ((with_reducible apply app_go); (focus (exact rfl)); (focus (decide)); (focus (walk_at "s")); walk_at "u")
  | skip)
local macro_rules | `(tactic| walk_at "ku") => `(tactic| fail "no spec")
local macro_rules | `(tactic| walk_at "a") => `(tactic| (with_reducible apply ss_go); (with_reducible apply ss_cons); (with_reducible apply s_asg))
local macro_rules | `(tactic| walk_at "cu") => `(tactic| (apply enterR); (focus (exact rfl)); (focus (walk_at "f")); (focus (walk_at "ev")); (focus ((intro R hR); walk_at "u")))
local macro_rules | `(tactic| walk_at "s1") => `(tactic| (with_reducible apply ss_go); (with_reducible apply ss_cons))
theorem sp_roll {k : Nat} (hk : 1 ≤ k) {s : List D} {m : Int} (hc : Cup s) (hm : 0 < m) (hl : m < 2 ^ 250) {Q : Sl → List Sl → Prop} (hQ : ∀ (s' : List D) (r : Int), Cup s' → 0 ≤ r → r < m → Q (.val (.int r)) [.own .bor s', .no]) : stp (wCall fns k 1 [.own .bor s, .val (.int m)] Q) := by
  obtain ⟨k, rfl⟩ := Nat.exists_eq_add_of_le' hk
  obtain ⟨c0, c1, rfl, h1, h2⟩ := hc
  walk_at "c"
  refine brI (fun h => ?_) (fun h => ?_)
  · walk_at "w"
    exact hQ _ _ ⟨_, _, rfl, h1, h2⟩ (fmod_b hm).1 (fmod_b hm).2
  · walk_at "w"
    refine hQ _ _ ⟨_, _, rfl, ?_, ?_⟩ (fmod_b hm).1 (fmod_b hm).2
    · exact (fmod_b (by decide)).1
    · exact Int.lt_trans (fmod_b (by decide)).2 (by decide)
theorem sp_cup {k : Nat} (hk : 1 ≤ k) {ns : List Int} (hn : ns.length ≤ 63) {Q : Sl → List Sl → Prop} (hQ : ∀ s' : List D, Cup s' → Q (.own .free s') [.no]) : stp (wCall fns k 0 [.scr ns] Q) := by
  obtain ⟨k, rfl⟩ := Nat.exists_eq_add_of_le' hk
  walk_at "c"
  refine ⟨Nat.le_trans (Nat.add_le_add_right (by rw [List.length_map]; exact hn) _) (by decide), ?_⟩
  have e : ∃ c : Int, atI (ns.map PyData.int ++ [PyData.int 0]) 0 = some (.int c) := by
    cases ns with
    | nil => exact ⟨0, atI_zero _ _⟩
    | cons n ns => exact ⟨n, atI_zero _ _⟩
  obtain ⟨c, e⟩ := e
  walk_at "w"
  refine dx_list e ?_
  walk_at "w"
  refine brI (fun h => ?_) (fun h => ?_)
  · walk_at "w"
    refine hQ _ ⟨_, _, rfl, ?_, ?_⟩
    · exact Int.add_nonneg (fmod_b (by decide)).1 (by decide)
    · exact Int.lt_trans (Int.add_lt_add_right (fmod_b (by decide)).2 _) (by decide)
  · walk_at "w"
    refine hQ _ ⟨_, _, rfl, ?_, ?_⟩
    · exact Int.add_nonneg (fmod_b (by decide)).1 (by decide)
    · exact Int.lt_trans (Int.add_lt_add_right (fmod_b (by decide)).2 _) (by decide)
theorem sp_some {k : Nat} (hk : 2 ≤ k) {s ds : List D} (hc : Cup s) (h0 : 0 < ds.length) (h1 : ds.length < 2 ^ 30) {Q : Sl → List Sl → Prop} (hQ : ∀ (s' : List D) (d : D), Cup s' → d ∈ ds → Q (.val d) [.own .bor s', .no]) : stp (wCall fns k 27 [.own .bor s, .val (.list ds)] Q) := by
  obtain ⟨k, rfl⟩ := Nat.exists_eq_add_of_le' hk
  walk_at "c"
  refine sp_roll (by omega) hc (by omega) (by omega) fun s' r c' r0 r1 => ?_
  walk_at "w"
  refine dx_mem r0 r1 fun d hd => ?_
  walk_at "w"
  exact hQ _ _ c' hd
theorem sp_sort {k : Nat} (hk : 1 ≤ k) {d : D} (hd : noDic d = true) {Q : Sl → List Sl → Prop} (hQ : Q (.val (.int (sortD d))) [.no]) : stp (wCall fns k 17 [.val d] Q) := by
  obtain ⟨k, rfl⟩ := Nat.exists_eq_add_of_le' hk
  walk_at "c"
  cases d with
  | dict => cases hd
  | _ => walk_at "w"; exact hQ
theorem sp_like : ∀ (j k : Nat) (d : D), d.canLay0 = true → d.depth ≤ j → j + 2 ≤ k → ∀ Q : Sl → List Sl → Prop, Q (.val (.bool true)) [.no, .no] → stp (wCall fns k 18 [.val d, .val d] Q) := by
  intro j
  induction j with
  | zero =>
    intro k d hd hj hk Q hQ
    obtain ⟨k, rfl⟩ := Nat.exists_eq_add_of_le' (Nat.le_trans (show 1 ≤ 0 + 2 by omega) hk)
    have nd : noDic d = true := by cases d <;> first | rfl | exact hd
    have sh : SeqAt.shaped d = true := by
      unfold SeqAt.shaped
      rw [hd, Bool.true_and]
      exact decide_eq_true (by omega)
    have er := SeqAt.eqv_refl d hd
    walk_at "c"
    cases d with
    | dict => cases nd
    | list ds => unfold PyData.depth at hj; omega
    | tuple ds => unfold PyData.depth at hj; omega
    | _ =>
      walk_at "w"
      refine sp_sort (by omega) nd ?_
      walk_at "w"
      refine sp_sort (by omega) nd ?_
      walk_at "w"
      first
        | (rw [er]; exact hQ)
        | (rw [beq_self_eq_true]; exact hQ)
        | (refine ⟨⟨sh, sh⟩, ?_⟩; rw [er]; walk_at "w"; exact hQ)
  | succ j ih =>
    intro k d hd hj hk Q hQ
    obtain ⟨k, rfl⟩ := Nat.exists_eq_add_of_le' (Nat.le_trans (show 1 ≤ j + 1 + 2 by omega) hk)
    have nd : noDic d = true := by cases d <;> first | rfl | exact hd
    have er := SeqAt.eqv_refl d hd
    have sh : flatD d = true → SeqAt.shaped d = true := fun hf => by
      unfold SeqAt.shaped
      rw [hd, Bool.true_and]
      cases d <;> first | rfl | exact Bool.noConfusion hf
    walk_at "c"
    cases d with
    | dict => cases nd
    | list ds =>
      walk_at "w"
      refine sp_sort (by omega) nd ?_
      walk_at "w"
      refine sp_sort (by omega) nd ?_
      walk_at "w"
      refine brT (beq_self_eq_true _) ?_
      walk_at "w"
      refine dComp_run (fun l acc e => acc = [] ∧ e = [.val (.list ds), .val (.list ds), .val (.int 5), .no, .no] ∧ ∀ x ∈ l, ∃ d ∈ ds, x = .tuple [d, d]) ?_ ?_ ⟨rfl, rfl, fun x hx => zip_mem hx⟩
      · rintro acc e ⟨rfl, rfl, -⟩
        walk_at "w"
        exact hQ
      · rintro x xs acc e ⟨rfl, rfl, hx⟩ next
        obtain ⟨d, hm, rfl⟩ := hx x (List.mem_cons_self ..)
        have hl := dep_mem hm hd
        have hj' : PyData.depthAll ds + 1 ≤ j + 1 := hj
        walk_at "w"
        refine ih _ d hl.1 ?_ ?_ _ ?_
        · omega
        · omega
        walk_at "w"
        exact next _ _ ⟨rfl, rfl, fun y hy => hx y (List.mem_cons_of_mem _ hy)⟩
    | tuple ds =>
      walk_at "w"
      refine sp_sort (by omega) nd ?_
      walk_at "w"
      refine sp_sort (by omega) nd ?_
      walk_at "w"
      refine brT (beq_self_eq_true _) ?_
      walk_at "w"
      refine dComp_run (fun l acc e => acc = [] ∧ e = [.val (.tuple ds), .val (.tuple ds), .val (.int 4), .no, .no] ∧ ∀ x ∈ l, ∃ d ∈ ds, x = .tuple [d, d]) ?_ ?_ ⟨rfl, rfl, fun x hx => zip_mem hx⟩
      · rintro acc e ⟨rfl, rfl, -⟩
        walk_at "w"
        exact hQ
      · rintro x xs acc e ⟨rfl, rfl, hx⟩ next
        obtain ⟨d, hm, rfl⟩ := hx x (List.mem_cons_self ..)
        have hl := dep_mem hm hd
        have hj' : PyData.depthAll ds + 1 ≤ j + 1 := hj
        walk_at "w"
        refine ih _ d hl.1 ?_ ?_ _ ?_
        · omega
        · omega
        walk_at "w"
        exact next _ _ ⟨rfl, rfl, fun y hy => hx y (List.mem_cons_of_mem _ hy)⟩
    | _ =>
      walk_at "w"
      refine sp_sort (by omega) nd ?_
      walk_at "w"
      refine sp_sort (by omega) nd ?_
      walk_at "w"
      first
        | (rw [er]; exact hQ)
        | (rw [beq_self_eq_true]; exact hQ)
        | (refine ⟨⟨sh rfl, sh rfl⟩, ?_⟩; rw [er]; walk_at "w"; exact hQ)
theorem sp_same {k : Nat} {d e : D} (h : d = e) (hd : e.canLay0 = true) (hj : e.depth ≤ 6) (hk : 8 ≤ k) {Q : Sl → List Sl → Prop} (hQ : Q (.val (.bool true)) [.no, .no]) : stp (wCall fns k 18 [.val d, .val e] Q) := by
  subst h
  exact sp_like 6 _ _ hd hj hk _ hQ
theorem sp_is_integer_any {k : Nat} (hk : 1 ≤ k) {d : D} (hd : noDic d = true) {Q : Sl → List Sl → Prop} (hQ : Q (.val (.bool (intQ d))) [.no]) : stp (wCall fns k 2 [.val d] Q) := by
  obtain ⟨k, rfl⟩ := Nat.exists_eq_add_of_le' hk
  cases d <;> first | (cases hd; done) | (walk_at "c"; exact hQ)
theorem sp_is_whole_any {k : Nat} (hk : 2 ≤ k) {d : D} {lo hi : Int} (hd : noDic d = true) {Q : Sl → List Sl → Prop} (hQ : Q (.val (.bool (wholeQ lo hi d))) [.no, .no, .no]) : stp (wCall fns k 3 [.val d, .val (.int lo), .val (.int hi)] Q) := by
  obtain ⟨k, rfl⟩ := Nat.exists_eq_add_of_le' hk
  walk_at "c"
  refine sp_is_integer_any (by omega) hd ?_
  walk_at "w"
  cases d <;> first | (cases hd; done) | (walk_at "w"; exact hQ) | skip
  rename_i i
  walk_at "w"
  refine brI (fun h => ?_) (fun h => ?_)
  · walk_at "w"
    have e : wholeQ lo hi (.int i) = decide (i ≤ hi) := by show (decide (lo ≤ i) && decide (i ≤ hi)) = _; rw [h, Bool.true_and]
    rw [← e]
    exact hQ
  · walk_at "w"
    have e : wholeQ lo hi (.int i) = false := by show (decide (lo ≤ i) && decide (i ≤ hi)) = _; rw [h, Bool.false_and]
    rw [e] at hQ
    exact hQ
theorem sp_is_integer {k : Nat} (hk : 1 ≤ k) {i : Int} {Q : Sl → List Sl → Prop} (hQ : Q (.val (.bool true)) [.no]) : stp (wCall fns k 2 [.val (.int i)] Q) := by
  obtain ⟨k, rfl⟩ := Nat.exists_eq_add_of_le' hk
  walk_at "c"
  exact hQ
theorem sp_is_whole {k : Nat} (hk : 2 ≤ k) {i lo hi : Int} (h1 : lo ≤ i) (h2 : i ≤ hi) {Q : Sl → List Sl → Prop} (hQ : Q (.val (.bool true)) [.no, .no, .no]) : stp (wCall fns k 3 [.val (.int i), .val (.int lo), .val (.int hi)] Q) := by
  obtain ⟨k, rfl⟩ := Nat.exists_eq_add_of_le' hk
  walk_at "c"
  refine sp_is_integer (by omega) ?_
  walk_at "w"
  refine brT (decide_eq_true h1) ?_
  walk_at "w"
  rw [decide_eq_true h2]
  exact hQ
theorem sp_law_divisor {k : Nat} (hk : 1 ≤ k) {a b : Int} {Q : Sl → List Sl → Prop} (hQ : Q (.val (.int (Int.gcd a b))) [.no, .no]) : stp (wCall fns k 19 [.val (.int a), .val (.int b)] Q) := by
  obtain ⟨k, rfl⟩ := Nat.exists_eq_add_of_le' hk
  walk_at "c"
  refine wLoop_run (fun n e => ∃ x : Nat, e = [.val (.int x), .val (.int n)] ∧ Nat.gcd x n = Int.gcd a b) ?_ (m := b.natAbs) ⟨a.natAbs, by rw [← abs_nat, ← abs_nat], rfl⟩
  rintro m e ⟨x, rfl, hg⟩ n next
  walk_at "w"
  refine brI (fun h => ?_) (fun h => ?_)
  · have hm : m ≠ 0 := by
      rintro rfl
      revert h
      simp [eqv_i]
    walk_at "w"
    rw [fmod_nat]
    exact next _ _ (Nat.mod_lt x (by omega)) ⟨m, rfl, by rw [← hg, Nat.gcd_comm x m, Nat.gcd_rec m x, Nat.gcd_comm]⟩
  · have hm : m = 0 := by
      simp [eqv_i] at h
      omega
    subst hm
    walk_at "w"
    rw [← hg, Nat.gcd_zero_right] at hQ
    exact hQ
theorem divB {a : Int} (h0 : 0 < a) (h : a ≤ 100000000000000000000) : a ≠ 0 ∧ a.natAbs.log2 < 9000 := by
  refine ⟨by omega, ?_⟩
  have q : a.natAbs ≠ 0 := by omega
  exact (Nat.log2_lt q).mpr (Nat.lt_of_le_of_lt (show a.natAbs ≤ 100000000000000000000 by omega) (Nat.lt_of_lt_of_le (show 100000000000000000000 < 2 ^ 70 by decide) (Nat.pow_le_pow_right (by decide) (by decide))))
theorem lx_dP (x y : Nat × Nat) : HT.lexLt [(x.1 : Int), (x.2 : Int)] [(y.1 : Int), (y.2 : Int)] = decide ((x.1 : Int) < y.1 ∨ ((x.1 : Int) = y.1 ∧ (x.2 : Int) < y.2)) := by
  rw [HT.lexLt_cons, HT.lexLt_cons]
  by_cases h1 : (x.1 : Int) = y.1
  · rw [if_pos h1]
    by_cases h2 : (x.2 : Int) = y.2
    · rw [if_pos h2]
      have e : HT.lexLt [] [] = false := rfl
      rw [e]
      exact (decide_eq_false (by omega)).symm
    · rw [if_neg h2, decide_eq_decide]
      omega
  · rw [if_neg h1, decide_eq_decide]
    omega
theorem srt_dP (xs : Nf.L) : Sortable (xs.map Nf.dP) := by
  refine ⟨fun d hd => ?_, ⟨true, fun d hd => ?_⟩, fun d hd e he => ?_⟩
  · obtain ⟨f, -, rfl⟩ := List.mem_map.mp hd
    exact ⟨rfl, of_decide_eq_true rfl⟩
  · obtain ⟨f, -, rfl⟩ := List.mem_map.mp hd
    rfl
  · obtain ⟨f, -, rfl⟩ := List.mem_map.mp hd
    obtain ⟨g, -, rfl⟩ := List.mem_map.mp he
    rw [Nf.flat_dP, Nf.flat_dP, lx_dP]
    show ltDs _ _ = _
    rw [ltDs, ltDs, ltDs]
    simp only [eqv_i, beq_iff_eq, ltD]
    split
    · split
      · rw [decide_eq_false (by omega)]
      · congr 1
        rw [decide_eq_decide]
        omega
    · congr 1
      rw [decide_eq_decide]
      omega
theorem uq_dP {xs ys : Nf.L} {es : List D} (p : xs.Perm ys) (h : ys.Pairwise fun x y => x.1 < y.1) (pe : es.Perm (xs.map Nf.dP)) (ps : es.Pairwise fun d e => HT.lexLt (flat e) (flat d) = false) : es = ys.map Nf.dP := by
  refine List.Perm.eq_of_pairwise (fun a b ha hb h1 h2 => ?_) ps ?_ (pe.trans (p.map _))
  · obtain ⟨u, _, rfl⟩ := List.mem_map.mp (pe.mem_iff.mp ha)
    obtain ⟨v, _, rfl⟩ := List.mem_map.mp hb
    rw [Nf.flat_dP, Nf.flat_dP, lx_dP] at h1 h2
    have h1 := of_decide_eq_false h1
    have h2 := of_decide_eq_false h2
    have : u = v := Prod.ext (by omega) (by omega)
    rw [this]
  · rw [List.pairwise_map]
    refine h.imp fun {a b} h => ?_
    rw [Nf.flat_dP, Nf.flat_dP, lx_dP]
    exact decide_eq_false (by omega)
theorem sort_dPT {xs ys : Nf.L} {F : Sl → Prop} (p : xs.Perm ys) (h : ys.Pairwise fun x y => x.1 < y.1) (q : F (.own .free (ys.map Nf.dP))) : wBi1 .sorted (.tuple (xs.map Nf.dP)) F := by
  refine o_sortedT (srt_dP xs) fun es pe ps => ?_
  rw [uq_dP p h pe ps]
  exact q
def eqL : Nf.L → Nf.L → Bool
  | [], [] => true
  | x :: xs, y :: ys => decide (x = y) && eqL xs ys
  | _, _ => false
theorem eqv_dPs : ∀ l m : Nf.L, PyData.eqvAll (l.map Nf.dP) (m.map Nf.dP) = eqL l m
  | [], [] => eqv_nil
  | [], y :: ys => by
    rw [List.map_nil, List.map_cons, PyData.eqvAll]
    rfl
  | x :: xs, [] => by
    rw [List.map_nil, List.map_cons, PyData.eqvAll]
    rfl
  | x :: xs, y :: ys => by
    rw [List.map_cons, List.map_cons, eqv_cons, Nf.eqv_dP, eqv_dPs xs ys]
    rfl
/-- whether a number is prime, as told -/
def isP (n : Nat) : Bool := eqL (Nf.fac n) [(n, 1)]
theorem isP_eqv (n : Nat) : PyData.eqv (.list ((Nf.fac n).map Nf.dP)) (.list [.tuple [.int (n : Nat), .int 1]]) = isP n := by
  rw [eqv_l]
  exact eqv_dPs (Nf.fac n) [(n, 1)]
structure Nm (n : Int) : Prop where
  lo : 1 ≤ n
  hi : n ≤ 10000000000
theorem sp_need_number {k : Nat} (hk : 4 ≤ k) {n : Int} (h : Nm n) {Q : Sl → List Sl → Prop} (hQ : Q (.val .none) [.no]) : stp (wCall fns k 5 [.val (.int n)] Q) := by
  obtain ⟨k, rfl⟩ := Nat.exists_eq_add_of_le' hk
  have e : (10 : Int) ^ Int.toNat 10 = 10000000000 := by decide +kernel
  walk_at "c"
  walk_at "c"
  refine sp_is_whole (by omega) h.lo h.hi ?_
  walk_at "w"
  exact hQ
end K03

set_option Elab.async false
set_option linter.all false
set_option maxRecDepth 100000
set_option maxHeartbeats 0
set_option exponentiation.threshold 4000
namespace K03
open PySem PySem.Spec PyProof.Rows L2 DL
local macro_rules | `(tactic| walk_at "bd") => `(tactic| repeat' (first
  | with_reducible assumption
  | with_reducible apply Bd.add
  | with_reducible apply Bd.sub
  | with_reducible apply Bd.mul
  | with_reducible apply Bd.neg
  | with_reducible apply Bd.fdiv
  | ((with_reducible apply Bd.fmod); (focus (first | decide | omega)))
  | with_reducible apply Bd.abs
  | exact Bd.lit (by decide) (by decide)
  | exact Bd.lit (by omega) (by omega)
  | exact Bd.lit2 (by decide) (by decide)))
local macro_rules | `(tactic| walk_at "pl") => `(tactic| first
  | with_reducible exact plN
  | ((with_reducible refine plC ?_ ?_); (focus (first | exact (show plainSl _ from True.intro) | exact (show plainSl _ from by assumption))); walk_at "pl"))
local macro_rules | `(tactic| walk_at "fl") => `(tactic| first
  | with_reducible exact flN
  | ((with_reducible refine flC ?_ ?_); (focus (first | exact (show freeSl _ from True.intro) | exact (show freeSl _ from by assumption))); walk_at "fl"))
local macro_rules | `(tactic| walk_at "s") => `(tactic| first
  | exact (show hasSl _ _ from True.intro)
  | exact (show freeSl _ from True.intro)
  | exact (show stillW _ _ from True.intro)
  | exact (show stillW _ _ from rfl)
  | exact (show freeSl _ from by assumption)
  | walk_at "pl"
  | walk_at "fl"
  | ((with_reducible apply mulR); exact Bd.lit (by decide) (by decide))
  | ((with_reducible apply mulL); exact Bd.lit (by decide) (by decide))
  | ((with_reducible apply mulOk); (focus (walk_at "bd")); (focus (walk_at "bd")); (focus (decide)))
  | exact (show CPow _ _ from ⟨by decide, by decide, by decide⟩)
  | ((with_reducible apply divOk) <;> first | decide | assumption | omega)
  | with_reducible assumption
  | exact ⟨rfl, rfl⟩
  | exact Nat.le_of_ble_eq_true rfl
  | exact of_decide_eq_true rfl
  | rfl
  | decide
  | omega)
local macro_rules | `(tactic| walk_at "ev") => `(tactic| first
  | exact ev_nil rfl
  | ((apply ev_cons); (focus (exact rfl)); (focus (conv => lhs; whnf)); walk_at "ev"))
local macro_rules | `(tactic| walk_at "bl") => `(tactic| first
  | exact bl_nil rfl
  | ((apply bl_cons); (focus (exact rfl)); (focus (conv => lhs; whnf)); walk_at "bl"))
local macro_rules | `(tactic| walk_at "gO") => `(tactic| first
  | ((with_reducible apply r_oV); (focus (walk_at "s")); walk_at "w")
  | ((with_reducible apply r_oE); (focus (exact rfl)); walk_at "w"))
local macro_rules | `(tactic| walk_at "gP") => `(tactic| first
  | ((with_reducible apply r_lend); (focus (exact rfl)); (focus (walk_at "ev")); walk_at "w")
  | ((with_reducible apply r_oP); (focus (exact rfl)); walk_at "w"))
local macro_rules | `(tactic| walk_at "gE") => `(tactic| first
  | ((with_reducible apply r_bin); walk_at "w")
  | ((with_reducible apply r_ix); walk_at "w")
  | ((with_reducible apply r_c); walk_at "w")
  | ((with_reducible apply r_vv); (focus (exact rfl)); walk_at "w")
  | ((with_reducible apply r_call); (focus (walk_at "bl")); walk_at "w")
  | ((with_reducible apply r_tup); walk_at "w")
  | ((with_reducible apply r_lst); walk_at "w")
  | ((with_reducible apply r_g); walk_at "w")
  | ((with_reducible apply r_neg); walk_at "w")
  | ((with_reducible apply r_cmp); walk_at "w")
  | ((with_reducible apply r_chain); walk_at "w")
  | ((with_reducible apply r_chain3); walk_at "w")
  | ((with_reducible apply r_isc); walk_at "w")
  | ((with_reducible apply r_and); walk_at "w")
  | ((with_reducible apply r_or); walk_at "w")
  | ((with_reducible apply r_not); walk_at "w")
  | ((with_reducible apply r_ite); walk_at "w")
  | ((with_reducible apply r_sl); walk_at "w")
  | ((with_reducible apply r_rev); walk_at "w")
  | ((with_reducible apply r_isi); walk_at "w")
  | ((with_reducible apply r_bi2); walk_at "w")
  | ((with_reducible apply r_lc); walk_at "w")
  | ((with_reducible apply r_list); walk_at "w")
  | ((with_reducible apply r_vo); (focus (exact rfl)); walk_at "w")
  | ((with_reducible apply r_vs); (focus (exact rfl)); walk_at "w")
  | ((with_reducible apply r_bi1); (focus (decide)); walk_at "w"))
local macro_rules | `(tactic| walk_at "gT") => `(tactic| first
  | ((with_reducible apply t_cmp); walk_at "w")
  | ((with_reducible apply t_and); walk_at "w")
  | ((with_reducible apply t_or); walk_at "w")
  | ((with_reducible apply t_not); walk_at "w")
  | ((with_reducible apply t_chain); walk_at "w")
  | ((with_reducible apply t_chain3); walk_at "w")
  | ((with_reducible apply t_isc); walk_at "w")
  | ((with_reducible apply t_isi); walk_at "w")
  | ((with_reducible apply t_bi1); walk_at "w")
  | ((with_reducible apply t_ix); walk_at "w")
  | ((with_reducible apply t_call); walk_at "w")
  | ((with_reducible apply t_bin); walk_at "w")
  | ((with_reducible apply t_v); (focus (exact rfl)); walk_at "w"))
local macro_rules | `(tactic| walk_at "gS") => `(tactic| first
  | ((with_reducible apply s_asg); walk_at "w")
  | ((with_reducible apply s_asgT); walk_at "w")
  | ((with_reducible apply s_par); walk_at "w")
  | ((with_reducible apply s_ex); walk_at "w")
  | ((with_reducible apply s_ite); walk_at "w")
  | ((with_reducible apply s_ret); (focus (exact rfl)); walk_at "w")
  | ((with_reducible apply s_ret0); walk_at "w")
  | ((with_reducible apply s_whl); walk_at "w")
  | ((with_reducible apply s_for); walk_at "w")
  | ((with_reducible apply s_pass); walk_at "w")
  | ((with_reducible apply s_brk); walk_at "w")
  | ((with_reducible apply s_cnt); walk_at "w")
  | ((with_reducible apply s_retV); (focus (exact rfl)); walk_at "w")
  | ((with_reducible apply s_retO); (focus (exact rfl)); walk_at "w")
  | ((with_reducible apply s_set); (focus (exact rfl)); walk_at "w")
  | ((with_reducible apply s_app); (focus (exact rfl)); walk_at "w"))
local macro_rules | `(tactic| walk_at "gSs") => `(tactic| first
  | ((with_reducible apply ss_cons); walk_at "w")
  | ((with_reducible apply ss_nil); walk_at "w"))
local macro_rules | `(tactic| walk_at "gBin") => `(tactic| first
  | ((with_reducible apply o_addI); walk_at "w")
  | ((with_reducible apply o_mulI); (focus (walk_at "s")); walk_at "w")
  | ((with_reducible apply o_subI); walk_at "w")
  | ((with_reducible apply o_fdivI); (focus (walk_at "s")); walk_at "w")
  | ((with_reducible apply o_modI); (focus (walk_at "s")); walk_at "w")
  | ((with_reducible apply o_powI); (focus (walk_at "s")); walk_at "w")
  | ((with_reducible apply o_addL); (focus (walk_at "s")); walk_at "w")
  | ((with_reducible apply o_addT); (focus (walk_at "s")); walk_at "w")
  | ((with_reducible apply o_mulT); (focus (exact ⟨(fun h => by cases h), by decide, by decide, by decide⟩)); walk_at "w")
  | ((with_reducible apply o_mulL); (focus (first | exact ⟨by decide, by decide, by decide⟩ | exact ⟨by omega, by omega, by simp; omega⟩)); walk_at "w"))
local macro_rules | `(tactic| walk_at "gCmp") => `(tactic| first
  | ((with_reducible apply o_eqI); walk_at "w")
  | ((with_reducible apply o_neI); walk_at "w")
  | ((with_reducible apply o_ltI); walk_at "w")
  | ((with_reducible apply o_leI); walk_at "w")
  | ((with_reducible apply o_gtI); walk_at "w")
  | ((with_reducible apply o_geI); walk_at "w")
  | ((with_reducible apply o_eq); (focus (walk_at "s")); walk_at "w")
  | ((with_reducible apply o_ne); (focus (walk_at "s")); walk_at "w")
  | ((with_reducible apply o_inT); (focus (walk_at "s")); walk_at "w")
  | ((with_reducible apply o_ninT); (focus (walk_at "s")); walk_at "w")
  | ((with_reducible apply o_inL); (focus (walk_at "s")); walk_at "w")
  | ((with_reducible apply o_ninL); (focus (walk_at "s")); walk_at "w"))
local macro_rules | `(tactic| walk_at "gTru") => `(tactic| first
  | ((with_reducible apply o_truB); walk_at "w")
  | ((with_reducible apply o_truI); walk_at "w")
  | ((with_reducible apply o_truL); walk_at "w")
  | ((with_reducible apply o_truT); walk_at "w")
  | ((with_reducible apply o_truN); walk_at "w"))
local macro_rules | `(tactic| walk_at "gBi1") => `(tactic| first
  | ((with_reducible apply o_lenL); walk_at "w")
  | ((with_reducible apply o_lenT); walk_at "w")
  | ((with_reducible apply o_abs); walk_at "w")
  | ((with_reducible apply o_int); walk_at "w")
  | ((with_reducible apply o_listL); walk_at "w")
  | ((with_reducible apply o_listT); walk_at "w")
  | ((with_reducible apply o_tupL); walk_at "w")
  | ((with_reducible apply o_tupT); walk_at "w"))
local macro_rules | `(tactic| walk_at "gStp") => `(tactic| first
  | ((with_reducible apply dx_list); (focus (exact rfl)); walk_at "w")
  | ((with_reducible apply dx_tup); (focus (exact rfl)); walk_at "w")
  | ((with_reducible apply ss_go); walk_at "w")
  | walk_at "k")
local macro_rules | `(tactic| walk_at "gBr") => `(tactic| first
  | ((with_reducible refine brT ?_ ?_); (focus (exact rfl)); walk_at "w")
  | ((with_reducible refine brF ?_ ?_); (focus (exact rfl)); walk_at "w"))
local macro_rules | `(tactic| walk_at "w") => `(tactic| first
  | ((with_reducible apply gO); walk_at "gO")
  | ((with_reducible apply gP); walk_at "gP")
  | ((with_reducible apply gE); walk_at "gE")
  | ((with_reducible apply r_at); (focus (walk_at "ev")); walk_at "w")
  | ((with_reducible apply r_oD); walk_at "w")
  | ((with_reducible refine And.intro ?_ ?_); (focus (walk_at "s")); walk_at "w")
  | ((with_reducible apply gSs); walk_at "gSs")
  | ((with_reducible apply gS); walk_at "gS")
  | ((with_reducible apply gT); walk_at "gT")
  | ((with_reducible apply gBin); walk_at "gBin")
  | ((with_reducible apply gCmp); walk_at "gCmp")
  | ((with_reducible apply gTru); walk_at "gTru")
  | ((with_reducible apply gBr); walk_at "gBr")
  | ((with_reducible apply gStp); walk_at "gStp")
  | ((with_reducible apply es_cons); walk_at "w")
  | ((with_reducible apply es_nil); walk_at "w")
  | ((with_reducible apply as_nil); walk_at "w")
  | ((with_reducible apply as_val); walk_at "w")
  | ((with_reducible apply as_ref); (focus (walk_at "s")); walk_at "w")
  | ((with_reducible apply gBi1); walk_at "gBi1")
  | ((with_reducible apply b_n); (focus (walk_at "s")); walk_at "w")
  | ((with_reducible apply b_t); walk_at "w")
  | ((with_reducible apply bs_cons); walk_at "w")
  | ((with_reducible apply bs_nil); walk_at "w")
  | ((with_reducible apply rs_cons); walk_at "w")
  | ((with_reducible apply rs_nil); walk_at "w")
  | ((with_reducible apply Rt_go); (focus (with_reducible assumption)); (focus (walk_at "ev")); walk_at "w")
  | ((with_reducible apply wl_succ); walk_at "w")
  | ((with_reducible apply it_e); walk_at "w")
  | ((with_reducible apply it_rng1); walk_at "w")
  | ((with_reducible apply it_rng2); walk_at "w")
  | ((with_reducible apply it_zip); walk_at "w")
  | ((with_reducible apply zip_l); walk_at "w")
  | ((with_reducible apply zip_t); walk_at "w")
  | ((with_reducible apply it_enum); walk_at "w")
  | ((with_reducible apply enu_l); walk_at "w")
  | ((with_reducible apply to_som); walk_at "w")
  | ((with_reducible apply to_non); walk_at "w")
  | ((with_reducible apply eo_som); walk_at "w")
  | ((with_reducible apply eo_non); walk_at "w")
  | ((with_reducible apply wf_cons); (focus (walk_at "s")); walk_at "w")
  | ((with_reducible apply wf_nil); (focus (walk_at "s")); walk_at "w")
  | ((with_reducible apply wc_cons); (focus (walk_at "s")); walk_at "w")
  | ((with_reducible apply wc_nil); (focus (walk_at "s")); walk_at "w")
  | ((with_reducible apply r_lstS); (focus (exact rfl)); walk_at "w")
  | ((with_reducible apply r_lstN); (focus (exact rfl)); walk_at "w")
  | ((with_reducible apply o_isNN); walk_at "w")
  | ((with_reducible apply o_isN); (focus (exact rfl)); walk_at "w")
  | ((with_reducible apply o_isB); walk_at "w")
  | ((with_reducible apply o_max2); walk_at "w")
  | ((with_reducible apply o_min2); walk_at "w")
  | ((with_reducible apply o_slL); walk_at "w")
  | ((with_reducible apply o_slT); walk_at "w")
  | ((with_reducible apply o_revL); walk_at "w")
  | ((with_reducible apply set_go); (focus (exact rfl)); (focus (decide)); (focus (exact rfl)); walk_at "w")
  | ((with_reducible apply app_go); (focus (exact rfl)); (focus (decide)); (focus (walk_at "s")); walk_at "w")
  | skip)
local macro_rules | `(tactic| walk_at "f") => `(tactic| (conv => whnf); first
  | exact True.intro
  | ((refine And.intro True.intro ?_); walk_at "f"))
local macro_rules | `(tactic| walk_at "c") => `(tactic| (apply enterR); (focus (exact rfl)); (focus (walk_at "f")); (focus (walk_at "ev")); (focus ((intro R hR); walk_at "w")))
local macro_rules | `(tactic| walk_at "o") => `(tactic| (first | with_reducible apply wc_openI | with_reducible apply wc_openV | with_reducible apply wf_openI | with_reducible apply wf_openV); (focus (walk_at "ev")); walk_at "w")
local macro_rules | `(tactic| walk_at "p") => `(tactic| (first | with_reducible apply wc_keepI | with_reducible apply wc_keepV | with_reducible apply wf_keepI | with_reducible apply wf_keepV); (focus (walk_at "ev")))
local macro_rules | `(tactic| walk_at "k") => `(tactic| fail "no spec")
local macro_rules | `(tactic| walk_at "lx") => `(tactic| first
  | exact lv_nil rfl
  | ((apply lv_cons); (focus (exact rfl)); (focus (conv => lhs; whnf)); walk_at "lx"))
local macro_rules | `(tactic| walk_at "oo") => `(tactic| (first | with_reducible apply wc_openLI | with_reducible apply wc_openLV | with_reducible apply wf_openLI | with_reducible apply wf_openLV); (focus (walk_at "ev")); (focus (walk_at "lx")); walk_at "w")
local macro_rules | `(tactic| walk_at "uO") => `(tactic| first
  | ((with_reducible apply r_oV); (focus (walk_at "s")); walk_at "u")
  | ((with_reducible apply r_oE); (focus (exact rfl)); walk_at "u"))
local macro_rules | `(tactic| walk_at "uP") => `(tactic| first
  | ((with_reducible apply r_lend); (focus (exact rfl)); (focus (walk_at "ev")); walk_at "u")
  | ((with_reducible apply r_oP); (focus (exact rfl)); walk_at "u"))
local macro_rules | `(tactic| walk_at "uE") => `(tactic| first
  | ((with_reducible apply r_bin); walk_at "u")
  | ((with_reducible apply r_ix); walk_at "u")
  | ((with_reducible apply r_c); walk_at "u")
  | ((with_reducible apply r_vv); (focus (exact rfl)); walk_at "u")
  | ((with_reducible apply r_call); (focus (walk_at "bl")); walk_at "u")
  | ((with_reducible apply r_tup); walk_at "u")
  | ((with_reducible apply r_lst); walk_at "u")
  | ((with_reducible apply r_g); walk_at "u")
  | ((with_reducible apply r_neg); walk_at "u")
  | ((with_reducible apply r_cmp); walk_at "u")
  | ((with_reducible apply r_chain); walk_at "u")
  | ((with_reducible apply r_chain3); walk_at "u")
  | ((with_reducible apply r_isc); walk_at "u")
  | ((with_reducible apply r_and); walk_at "u")
  | ((with_reducible apply r_or); walk_at "u")
  | ((with_reducible apply r_not); walk_at "u")
  | ((with_reducible apply r_ite); walk_at "u")
  | ((with_reducible apply r_sl); walk_at "u")
  | ((with_reducible apply r_rev); walk_at "u")
  | ((with_reducible apply r_isi); walk_at "u")
  | ((with_reducible apply r_bi2); walk_at "u")
  | ((with_reducible apply r_lc); walk_at "u")
  | ((with_reducible apply r_list); walk_at "u")
  | ((with_reducible apply r_vo); (focus (exact rfl)); walk_at "u")
  | ((with_reducible apply r_vs); (focus (exact rfl)); walk_at "u")
  | ((with_reducible apply r_bi1); (focus (decide)); walk_at "u"))
local macro_rules | `(tactic| walk_at "uT") => `(tactic| first
  | ((with_reducible apply t_cmp); walk_at "u")
  | ((with_reducible apply t_and); walk_at "u")
  | ((with_reducible apply t_or); walk_at "u")
  | ((with_reducible apply t_not); walk_at "u")
  | ((with_reducible apply t_chain); walk_at "u")
  | ((with_reducible apply t_chain3); walk_at "u")
  | ((with_reducible apply t_isc); walk_at "u")
  | ((with_reducible apply t_isi); walk_at "u")
  | ((with_reducible apply t_bi1); walk_at "u")
  | ((with_reducible apply t_ix); walk_at "u")
  | ((with_reducible apply t_call); walk_at "u")
  | ((with_reducible apply t_bin); walk_at "u")
  | ((with_reducible apply t_v); (focus (exact rfl)); walk_at "u"))
local macro_rules | `(tactic| walk_at "uS") => `(tactic| first
  | ((with_reducible apply s_asg); walk_at "u")
  | ((with_reducible apply s_asgT); walk_at "u")
  | ((with_reducible apply s_par); walk_at "u")
  | ((with_reducible apply s_ex); walk_at "u")
  | ((with_reducible apply s_ite); walk_at "u")
  | ((with_reducible apply s_ret); (focus (exact rfl)); walk_at "u")
  | ((with_reducible apply s_ret0); walk_at "u")
  | ((with_reducible apply s_whl); walk_at "u")
  | ((with_reducible apply s_for); walk_at "u")
  | ((with_reducible apply s_pass); walk_at "u")
  | ((with_reducible apply s_brk); walk_at "u")
  | ((with_reducible apply s_cnt); walk_at "u")
  | ((with_reducible apply s_retV); (focus (exact rfl)); walk_at "u")
  | ((with_reducible apply s_retO); (focus (exact rfl)); walk_at "u")
  | ((with_reducible apply s_set); (focus (exact rfl)); walk_at "u")
  | ((with_reducible apply s_app); (focus (exact rfl)); walk_at "u"))
local macro_rules | `(tactic| walk_at "uSs") => `(tactic| first
  | ((with_reducible apply ss_cons); walk_at "u")
  | ((with_reducible apply ss_nil); walk_at "u"))
local macro_rules | `(tactic| walk_at "uBin") => `(tactic| first
  | ((with_reducible apply o_addI); walk_at "u")
  | ((with_reducible apply o_mulI); (focus (walk_at "s")); walk_at "u")
  | ((with_reducible apply o_subI); walk_at "u")
  | ((with_reducible apply o_fdivI); (focus (walk_at "s")); walk_at "u")
  | ((with_reducible apply o_modI); (focus (walk_at "s")); walk_at "u")
  | ((with_reducible apply o_powI); (focus (walk_at "s")); walk_at "u")
  | ((with_reducible apply o_addL); (focus (walk_at "s")); walk_at "u")
  | ((with_reducible apply o_addT); (focus (walk_at "s")); walk_at "u")
  | ((with_reducible apply o_mulT); (focus (exact ⟨(fun h => by cases h), by decide, by decide, by decide⟩)); walk_at "u")
  | ((with_reducible apply o_mulL); (focus (first | exact ⟨by decide, by decide, by decide⟩ | exact ⟨by omega, by omega, by simp; omega⟩)); walk_at "u"))
local macro_rules | `(tactic| walk_at "uCmp") => `(tactic| first
  | ((with_reducible apply o_eqI); walk_at "u")
  | ((with_reducible apply o_neI); walk_at "u")
  | ((with_reducible apply o_ltI); walk_at "u")
  | ((with_reducible apply o_leI); walk_at "u")
  | ((with_reducible apply o_gtI); walk_at "u")
  | ((with_reducible apply o_geI); walk_at "u")
  | ((with_reducible apply o_eq); (focus (walk_at "s")); walk_at "u")
  | ((with_reducible apply o_ne); (focus (walk_at "s")); walk_at "u")
  | ((with_reducible apply o_inT); (focus (walk_at "s")); walk_at "u")
  | ((with_reducible apply o_ninT); (focus (walk_at "s")); walk_at "u")
  | ((with_reducible apply o_inL); (focus (walk_at "s")); walk_at "u")
  | ((with_reducible apply o_ninL); (focus (walk_at "s")); walk_at "u"))
local macro_rules | `(tactic| walk_at "uTru") => `(tactic| first
  | ((with_reducible apply o_truB); walk_at "u")
  | ((with_reducible apply o_truI); walk_at "u")
  | ((with_reducible apply o_truL); walk_at "u")
  | ((with_reducible apply o_truT); walk_at "u")
  | ((with_reducible apply o_truN); walk_at "u"))
local macro_rules | `(tactic| walk_at "uBi1") => `(tactic| first
  | ((with_reducible apply o_lenL); walk_at "u")
  | ((with_reducible apply o_lenT); walk_at "u")
  | ((with_reducible apply o_abs); walk_at "u")
  | ((with_reducible apply o_int); walk_at "u")
  | ((with_reducible apply o_listL); walk_at "u")
  | ((with_reducible apply o_listT); walk_at "u")
  | ((with_reducible apply o_tupL); walk_at "u")
  | ((with_reducible apply o_tupT); walk_at "u"))
local macro_rules | `(tactic| walk_at "uStp") => `(tactic| first
  | ((with_reducible apply dx_list); (focus (exact rfl)); walk_at "u")
  | ((with_reducible apply dx_tup); (focus (exact rfl)); walk_at "u")
  | walk_at "ku")
local macro_rules | `(tactic| walk_at "uBr") => `(tactic| first
  | ((with_reducible refine brT ?_ ?_); (focus (exact rfl)); walk_at "u")
  | ((with_reducible refine brF ?_ ?_); (focus (exact rfl)); walk_at "u"))
local macro_rules | `(tactic| walk_at "u") => `(tactic| first
  | ((with_reducible apply gO); walk_at "uO")
  | ((with_reducible apply gP); walk_at "uP")
  | ((with_reducible apply gE); walk_at "uE")
  | ((with_reducible apply r_at); (focus (walk_at "ev")); walk_at "u")
  | ((with_reducible apply r_oD); walk_at "u")
  | ((with_reducible refine And.intro ?_ ?_); (focus (walk_at "s")); walk_at "u")
  | ((with_reducible apply gSs); walk_at "uSs")
  | ((with_reducible apply gS); walk_at "uS")
  | ((with_reducible apply gT); walk_at "uT")
  | ((with_reducible apply gBin); walk_at "uBin")
  | ((with_reducible apply gCmp); walk_at "uCmp")
  | ((with_reducible apply gTru); walk_at "uTru")
  | ((with_reducible apply gBr); walk_at "uBr")
  | ((with_reducible apply gStp); walk_at "uStp")
  | ((with_reducible apply es_cons); walk_at "u")
  | ((with_reducible apply es_nil); walk_at "u")
  | ((with_reducible apply as_nil); walk_at "u")
  | ((with_reducible apply as_val); walk_at "u")
  | ((with_reducible apply as_ref); (focus (walk_at "s")); walk_at "u")
  | ((with_reducible apply gBi1); walk_at "uBi1")
  | ((with_reducible apply b_n); (focus (walk_at "s")); walk_at "u")
  | ((with_reducible apply b_t); walk_at "u")
  | ((with_reducible apply bs_cons); walk_at "u")
  | ((with_reducible apply bs_nil); walk_at "u")
  | ((with_reducible apply rs_cons); walk_at "u")
  | ((with_reducible apply rs_nil); walk_at "u")
  | ((with_reducible apply Rt_go); (focus (with_reducible assumption)); (focus (walk_at "ev")); walk_at "u")
  | ((with_reducible apply wl_succ); walk_at "u")
  | ((with_reducible apply it_e); walk_at "u")
  | ((with_reducible apply it_rng1); walk_at "u")
  | ((with_reducible apply it_rng2); walk_at "u")
  | ((with_reducible apply it_zip); walk_at "u")
  | ((with_reducible apply zip_l); walk_at "u")
  | ((with_reducible apply zip_t); walk_at "u")
  | ((with_reducible apply it_enum); walk_at "u")
  | ((with_reducible apply enu_l); walk_at "u")
  | ((with_reducible apply to_som); walk_at "u")
  | ((with_reducible apply to_non); walk_at "u")
  | ((with_reducible apply eo_som); walk_at "u")
  | ((with_reducible apply eo_non); walk_at "u")
  | ((with_reducible apply wf_cons); (focus (walk_at "s")); walk_at "u")
  | ((with_reducible apply wf_nil); (focus (walk_at "s")); walk_at "u")
  | ((with_reducible apply wc_cons); (focus (walk_at "s")); walk_at "u")
  | ((with_reducible apply wc_nil); (focus (walk_at "s")); walk_at "u")
  | ((with_reducible apply r_lstS); (focus (exact rfl)); walk_at "u")
  | ((with_reducible apply r_lstN); (focus (exact rfl)); walk_at "u")
  | ((with_reducible apply o_isNN); walk_at "u")
  | ((with_reducible apply o_isN); (focus (exact rfl)); walk_at "u")
  | ((with_reducible apply o_isB); walk_at "u")
  | ((with_reducible apply o_max2); walk_at "u")
  | ((with_reducible apply o_min2); walk_at "u")
  | ((with_reducible apply o_slL); walk_at "u")
  | ((with_reducible apply o_slT); walk_at "u")
  | ((with_reducible apply o_revL); walk_at "u")
  | ((with_reducible apply set_go); (focus (exact rfl)); (focus (decide)); (focus (exact rfl)); walk_at "u")
  | ((with_reducible apply app_go); (focus (exact rfl)); (focus (decide)); (focus (walk_at "s")); walk_at "u")
  | skip)
local macro_rules | `(tactic| walk_at "ku") => `(tactic| fail "no spec")
local macro_rules | `(tactic| walk_at "a") => `(tactic| (with_reducible apply ss_go); (with_reducible apply ss_cons); (with_reducible apply s_asg))
local macro_rules | `(tactic| walk_at "cu") => `(tactic| (apply enterR); (focus (exact rfl)); (focus (walk_at "f")); (focus (walk_at "ev")); (focus ((intro R hR); walk_at "u")))
local macro_rules | `(tactic| walk_at "s1") => `(tactic| (with_reducible apply ss_go); (with_reducible apply ss_cons))
theorem natMod {n t : Nat} : (n : Int).fmod (t : Int) = ((n % t : Nat) : Int) := by
  rw [Int.fmod_eq_emod_of_nonneg _ (Int.natCast_nonneg t)]
  rfl
theorem natDiv {n t : Nat} : (n : Int).fdiv (t : Int) = ((n / t : Nat) : Int) := by
  rw [Int.fdiv_eq_ediv_of_nonneg _ (Int.natCast_nonneg t)]
  rfl
theorem nxtI {t : Nat} (h : t = 2 ∨ t % 2 = 1) : (t : Int) + (if t = 2 then 1 else 2) = ((Nf.nxt t : Nat) : Int) := by
  unfold Nf.nxt
  split <;> omega
/-- one trial is done with -/
theorem pull_zero {n t : Nat} (h : n % t ≠ 0) : Nf.pull 40 t n = (n, 0) := by
  rw [Nf.pull_succ, if_neg h]
structure St (f : Nat) (n t : Nat) (l all : Nf.L) : Prop where
  tr : Nf.Tr n t
  fu : n < (t + f) * (t + f)
  eq : l ++ Nf.facF f n t = all
  n1 : n ≤ 10 ^ 10
  ll : l.length + f ≤ Nf.FF
  tb : t ≤ 100003
theorem St.fin {f n t : Nat} {l all : Nf.L} (h : St f n t l all) (q : ¬ t * t ≤ n) : all = l ++ Nf.last n := by
  rw [← h.eq]
  cases f with
  | zero => rfl
  | succ f => rw [Nf.facF_succ, if_neg q]
theorem St.fu1 {f n t : Nat} {l all : Nf.L} (h : St f n t l all) (q : t * t ≤ n) : ∃ g, f = g + 1 := by
  cases f with
  | zero =>
    have := h.fu
    rw [Nat.add_zero] at this
    omega
  | succ g => exact ⟨g, rfl⟩
theorem St.small {f n t : Nat} {l all : Nf.L} (h : St f n t l all) (q : t * t ≤ n) : t ≤ 100000 := by
  have := h.n1
  apply Nat.le_of_not_lt
  intro q2
  have := Nat.mul_le_mul (show 100001 ≤ t by omega) (show 100001 ≤ t by omega)
  omega
theorem nxt_up (t : Nat) : Nf.nxt t ≤ t + 2 := by unfold Nf.nxt; omega
theorem St.sk {f n t : Nat} {l all : Nf.L} (h : St (f + 1) n t l all) (q : t * t ≤ n) (hm : n % t ≠ 0) : St f n (Nf.nxt t) l all := by
  have hnx : t + 1 ≤ Nf.nxt t := by unfold Nf.nxt; omega
  have hle : (t + (f + 1)) * (t + (f + 1)) ≤ (Nf.nxt t + f) * (Nf.nxt t + f) := Nat.mul_le_mul (by omega) (by omega)
  refine ⟨h.tr.skip hm, Nat.lt_of_lt_of_le h.fu hle, ?_, h.n1, by have := h.ll; omega, by have := h.small q; have := nxt_up t; omega⟩
  rw [← h.eq, Nf.facF_succ, if_pos q, if_neg hm]
theorem St.ou {f n t : Nat} {l all : Nf.L} (h : St (f + 1) n t l all) (q : t * t ≤ n) (hm : n % t = 0) : St f (Nf.pull 40 t n).1 (Nf.nxt t) (l ++ [(t, (Nf.pull 40 t n).2)]) all := by
  have hnx : t + 1 ≤ Nf.nxt t := by unfold Nf.nxt; omega
  have hle : (t + (f + 1)) * (t + (f + 1)) ≤ (Nf.nxt t + f) * (Nf.nxt t + f) := Nat.mul_le_mul (by omega) (by omega)
  obtain ⟨e1, e2, e3⟩ := Nf.pull_ok h.tr.t2 h.tr.n0 h.tr.n1
  have hlt : (Nf.pull 40 t n).1 ≤ n := by
    apply Nat.le_of_dvd h.tr.n0
    exact ⟨t ^ (Nf.pull 40 t n).2, by rw [Nat.mul_comm]; exact e1⟩
  refine ⟨h.tr.out, Nat.lt_of_le_of_lt hlt (Nat.lt_of_lt_of_le h.fu hle), ?_, Nat.le_trans hlt h.n1, by have := h.ll; rw [List.length_append, List.length_singleton]; omega, by have := h.small q; have := nxt_up t; omega⟩
  rw [← h.eq, Nf.facF_succ, if_pos q, if_pos hm, List.append_assoc]
  rfl
theorem pull_pos {n t : Nat} (hm : n % t = 0) : 0 < (Nf.pull 40 t n).2 := by
  rw [Nf.pull_succ, if_pos hm]
  exact Nat.succ_pos _
theorem last_len (n : Nat) : (Nf.last n).length ≤ 1 := by
  unfold Nf.last
  split <;> simp
theorem nx2 {t : Nat} {T : Int} (hT : T = t) (h : T = 2) : T + 1 = ((Nf.nxt t : Nat) : Int) := by
  have : t = 2 := by omega
  subst this
  show T + 1 = ((3 : Nat) : Int)
  omega
theorem nxo {t : Nat} {T : Int} (hT : T = t) (h : T ≠ 2) (o : t = 2 ∨ t % 2 = 1) : T + 2 = ((Nf.nxt t : Nat) : Int) := by
  unfold Nf.nxt
  omega
theorem sp_factors_in {k : Nat} (hk : 1 ≤ k) {n0 : Int} (h0 : Nm n0) {Q : Sl → List Sl → Prop} (hQ : Q (.own .free ((Nf.fac n0.toNat).map Nf.dP)) [.no]) : stp (wCall fns k 6 [.val (.int n0)] Q) := by
  obtain ⟨k, rfl⟩ := Nat.exists_eq_add_of_le' hk
  have hn0 := h0.lo
  have hn1 := h0.hi
  walk_at "c"
  refine wLoop_run (fun m e => ∃ (n t : Nat) (N T : Int) (l : Nf.L) (x3 : Sl), e = [.val (.int N), .own .free (l.map Nf.dP), .val (.int T), x3] ∧ N = n ∧ T = t ∧ freeSl (some x3) ∧ St m n t l (Nf.fac n0.toNat)) ?_ (m := Nf.FF) ⟨n0.toNat, 2, n0, 2, [], .no, rfl, by omega, rfl, trivial, Nf.tr2 (by omega) (by omega), Nat.lt_of_le_of_lt (show n0.toNat ≤ 10 ^ 10 by omega) (by decide), rfl, by omega, by decide, by decide⟩
  rintro m e ⟨n, t, N, T, l, x3, rfl, hN, hT, f3, st⟩ fu next
  have t2 := st.tr.t2
  have tb := st.tb
  have bT : Bd 64 T := .of (by omega)
  have i1 : IntMulOk T T := mulOk bT bT (by omega)
  have ne : T ≠ 0 := by omega
  have dv := divB (a := T) (by omega) (by omega)
  have eTT : T * T = ((t * t : Nat) : Int) := by rw [hT, Int.natCast_mul]
  walk_at "w"
  refine brI (fun h => ?_) (fun h => ?_)
  · have hsq : t * t ≤ n := by have := of_decide_eq_true h; rw [eTT, hN] at this; omega
    obtain ⟨g, rfl⟩ := st.fu1 hsq
    walk_at "w"
    refine wLoop_run (fun m e => ∃ (a j : Nat) (A J : Int), e = [.val (.int A), .own .free (l.map Nf.dP), .val (.int T), .val (.int J)] ∧ A = a ∧ J = j ∧ 0 < a ∧ a < 2 ^ m ∧ m ≤ 40 ∧ (Nf.pull m t a).1 = (Nf.pull 40 t n).1 ∧ (Nf.pull m t a).2 + j = (Nf.pull 40 t n).2) ?_ (m := 40) ⟨n, 0, N, 0, rfl, hN, rfl, st.tr.n0, st.tr.n1, by decide, rfl, rfl⟩
    rintro m e ⟨a, j, A, J, rfl, hA, hJ, a0, am, m40, p1, p2⟩ fu2 next2
    have eM : A.fmod T = ((a % t : Nat) : Int) := by rw [hA, hT]; exact natMod
    have eD : A.fdiv T = ((a / t : Nat) : Int) := by rw [hA, hT]; exact natDiv
    have bA : Bd 64 A := .of (by
      have := Nat.pow_le_pow_right (n := 2) (by decide) m40
      have e : 2 ^ 40 = 1099511627776 := by decide
      omega)
    walk_at "w"
    refine brI (fun h2 => ?_) (fun h2 => ?_)
    · rw [eM, beq_iff_eq] at h2
      have hz : a % t = 0 := by omega
      cases m with
      | zero => omega
      | succ m =>
        rw [Nf.pull_succ, if_pos hz] at p1 p2
        have hd := Nat.div_add_mod a t
        rw [hz] at hd
        have h1 : 0 < a / t := Nat.div_pos (Nat.le_of_dvd a0 (Nat.dvd_of_mod_eq_zero hz)) (by omega)
        have h3 : a / t < 2 ^ m := by
          rw [Nat.pow_succ] at am
          have : 2 * (a / t) ≤ t * (a / t) := Nat.mul_le_mul_right _ t2
          omega
        walk_at "w"
        exact next2 _ _ (Nat.lt_succ_self m) ⟨a / t, j + 1, _, _, rfl, eD, by omega, h1, h3, by omega, p1, by simp only at p2; omega⟩
    · rw [eM, beq_eq_false_iff_ne] at h2
      have hz : a % t ≠ 0 := by omega
      have hp : Nf.pull m t a = (a, 0) := by
        cases m with
        | zero => rfl
        | succ m => rw [Nf.pull_succ, if_neg hz]
      rw [hp] at p1 p2
      simp only at p1 p2
      walk_at "w"
      refine brI (fun h3 => ?_) (fun h3 => ?_)
      · have hm : n % t = 0 := by
          apply Decidable.byContradiction
          intro q
          rw [pull_zero q] at p2
          have := of_decide_eq_true h3
          simp only at p2
          omega
        have st2 := st.ou hsq hm
        have ll := st.ll
        have eF : Nf.FF = 100000 := rfl
        walk_at "w"
        refine app_go rfl (by decide) (Nat.lt_of_le_of_lt (show _ ≤ 100000 by rw [List.length_map]; omega) (of_decide_eq_true rfl)) ?_
        have eL : l.map Nf.dP ++ [.tuple [.int T, .int J]] = (l ++ [(t, (Nf.pull 40 t n).2)]).map Nf.dP := by
          rw [List.map_append, hT, hJ, ← p2]
          simp
        rw [eL]
        walk_at "w"
        refine brI (fun h4 => ?_) (fun h4 => ?_)
        · rw [beq_iff_eq] at h4
          walk_at "w"
          exact next _ _ (Nat.lt_succ_self g) ⟨_, _, _, _, _, _, rfl, by rw [hA, p1], nx2 hT h4, trivial, st2⟩
        · rw [beq_eq_false_iff_ne] at h4
          walk_at "w"
          exact next _ _ (Nat.lt_succ_self g) ⟨_, _, _, _, _, _, rfl, by rw [hA, p1], nxo hT h4 st.tr.odd, trivial, st2⟩
      · have hm : n % t ≠ 0 := by
          intro q
          have := pull_pos q
          have := of_decide_eq_false h3
          omega
        rw [pull_zero hm] at p1
        simp only at p1
        have st2 := st.sk hsq hm
        walk_at "w"
        refine brI (fun h4 => ?_) (fun h4 => ?_)
        · rw [beq_iff_eq] at h4
          walk_at "w"
          exact next _ _ (Nat.lt_succ_self g) ⟨_, _, _, _, _, _, rfl, by rw [hA, p1], nx2 hT h4, trivial, st2⟩
        · rw [beq_eq_false_iff_ne] at h4
          walk_at "w"
          exact next _ _ (Nat.lt_succ_self g) ⟨_, _, _, _, _, _, rfl, by rw [hA, p1], nxo hT h4 st.tr.odd, trivial, st2⟩
  · have hsq : ¬ t * t ≤ n := fun q => by have := of_decide_eq_false h; rw [eTT, hN] at this; omega
    have hfin := st.fin hsq
    have ll := st.ll
    have eF : Nf.FF = 100000 := rfl
    have hl : ∀ ds : List D, ds.length ≤ 1 → (l.map Nf.dP).length + ds.length ≤ sizeLine := fun ds h => Nat.le_trans (show _ ≤ 100001 by rw [List.length_map]; omega) (of_decide_eq_true rfl)
    unfold Nf.last at hfin
    walk_at "w"
    refine brI (fun h2 => ?_) (fun h2 => ?_)
    · have h2 := of_decide_eq_true h2
      rw [if_pos (by rw [Nat.ble_eq]; omega)] at hfin
      walk_at "w"
      refine o_addL (hl _ (by simp)) ?_
      have eL : l.map Nf.dP ++ [.tuple [.int N, .int 1]] = (l ++ [(n, 1)]).map Nf.dP := by
        rw [List.map_append, hN]
        rfl
      rw [eL, ← hfin]
      walk_at "w"
      exact hQ
    · have h2 := of_decide_eq_false h2
      rw [if_neg (by rw [Nat.ble_eq]; omega)] at hfin
      walk_at "w"
      refine o_addL (hl _ (by simp)) ?_
      rw [List.append_nil]
      rw [List.append_nil] at hfin
      rw [← hfin]
      walk_at "w"
      exact hQ
end K03

set_option Elab.async false
set_option linter.all false
set_option maxRecDepth 100000
set_option maxHeartbeats 0
set_option exponentiation.threshold 4000
namespace K03
open PySem PySem.Spec PyProof.Rows L2 DL
local macro_rules | `(tactic| walk_at "bd") => `(tactic| repeat' (first
  | with_reducible assumption
  | with_reducible apply Bd.add
  | with_reducible apply Bd.sub
  | with_reducible apply Bd.mul
  | with_reducible apply Bd.neg
  | with_reducible apply Bd.fdiv
  | ((with_reducible apply Bd.fmod); (focus (first | decide | omega)))
  | with_reducible apply Bd.abs
  | exact Bd.lit (by decide) (by decide)
  | exact Bd.lit (by omega) (by omega)
  | exact Bd.lit2 (by decide) (by decide)))
local macro_rules | `(tactic| walk_at "pl") => `(tactic| first
  | with_reducible exact plN
  | ((with_reducible refine plC ?_ ?_); (focus (first | exact (show plainSl _ from True.intro) | exact (show plainSl _ from by assumption))); walk_at "pl"))
local macro_rules | `(tactic| walk_at "fl") => `(tactic| first
  | with_reducible exact flN
  | ((with_reducible refine flC ?_ ?_); (focus (first | exact (show freeSl _ from True.intro) | exact (show freeSl _ from by assumption))); walk_at "fl"))
local macro_rules | `(tactic| walk_at "s") => `(tactic| first
  | exact (show hasSl _ _ from True.intro)
  | exact (show freeSl _ from True.intro)
  | exact (show stillW _ _ from True.intro)
  | exact (show stillW _ _ from rfl)
  | exact (show freeSl _ from by assumption)
  | walk_at "pl"
  | walk_at "fl"
  | ((with_reducible apply mulR); exact Bd.lit (by decide) (by decide))
  | ((with_reducible apply mulL); exact Bd.lit (by decide) (by decide))
  | ((with_reducible apply mulOk); (focus (walk_at "bd")); (focus (walk_at "bd")); (focus (decide)))
  | exact (show CPow _ _ from ⟨by decide, by decide, by decide⟩)
  | ((with_reducible apply divOk) <;> first | decide | assumption | omega)
  | with_reducible assumption
  | exact ⟨rfl, rfl⟩
  | exact Nat.le_of_ble_eq_true rfl
  | exact of_decide_eq_true rfl
  | rfl
  | decide
  | omega)
local macro_rules | `(tactic| walk_at "ev") => `(tactic| first
  | exact ev_nil rfl
  | ((apply ev_cons); (focus (exact rfl)); (focus (conv => lhs; whnf)); walk_at "ev"))
local macro_rules | `(tactic| walk_at "bl") => `(tactic| first
  | exact bl_nil rfl
  | ((apply bl_cons); (focus (exact rfl)); (focus (conv => lhs; whnf)); walk_at "bl"))
local macro_rules | `(tactic| walk_at "gO") => `(tactic| first
  | ((with_reducible apply r_oV); (focus (walk_at "s")); walk_at "w")
  | ((with_reducible apply r_oE); (focus (exact rfl)); walk_at "w"))
local macro_rules | `(tactic| walk_at "gP") => `(tactic| first
  | ((with_reducible apply r_lend); (focus (exact rfl)); (focus (walk_at "ev")); walk_at "w")
  | ((with_reducible apply r_oP); (focus (exact rfl)); walk_at "w"))
local macro_rules | `(tactic| walk_at "gE") => `(tactic| first
  | ((with_reducible apply r_bin); walk_at "w")
  | ((with_reducible apply r_ix); walk_at "w")
  | ((with_reducible apply r_c); walk_at "w")
  | ((with_reducible apply r_vv); (focus (exact rfl)); walk_at "w")
  | ((with_reducible apply r_call); (focus (walk_at "bl")); walk_at "w")
  | ((with_reducible apply r_tup); walk_at "w")
  | ((with_reducible apply r_lst); walk_at "w")
  | ((with_reducible apply r_g); walk_at "w")
  | ((with_reducible apply r_neg); walk_at "w")
  | ((with_reducible apply r_cmp); walk_at "w")
  | ((with_reducible apply r_chain); walk_at "w")
  | ((with_reducible apply r_chain3); walk_at "w")
  | ((with_reducible apply r_isc); walk_at "w")
  | ((with_reducible apply r_and); walk_at "w")
  | ((with_reducible apply r_or); walk_at "w")
  | ((with_reducible apply r_not); walk_at "w")
  | ((with_reducible apply r_ite); walk_at "w")
  | ((with_reducible apply r_sl); walk_at "w")
  | ((with_reducible apply r_rev); walk_at "w")
  | ((with_reducible apply r_isi); walk_at "w")
  | ((with_reducible apply r_bi2); walk_at "w")
  | ((with_reducible apply r_lc); walk_at "w")
  | ((with_reducible apply r_list); walk_at "w")
  | ((with_reducible apply r_vo); (focus (exact rfl)); walk_at "w")
  | ((with_reducible apply r_vs); (focus (exact rfl)); walk_at "w")
  | ((with_reducible apply r_bi1); (focus (decide)); walk_at "w"))
local macro_rules | `(tactic| walk_at "gT") => `(tactic| first
  | ((with_reducible apply t_cmp); walk_at "w")
  | ((with_reducible apply t_and); walk_at "w")
  | ((with_reducible apply t_or); walk_at "w")
  | ((with_reducible apply t_not); walk_at "w")
  | ((with_reducible apply t_chain); walk_at "w")
  | ((with_reducible apply t_chain3); walk_at "w")
  | ((with_reducible apply t_isc); walk_at "w")
  | ((with_reducible apply t_isi); walk_at "w")
  | ((with_reducible apply t_bi1); walk_at "w")
  | ((with_reducible apply t_ix); walk_at "w")
  | ((with_reducible apply t_call); walk_at "w")
  | ((with_reducible apply t_bin); walk_at "w")
  | ((with_reducible apply t_v); (focus (exact rfl)); walk_at "w"))
local macro_rules | `(tactic| walk_at "gS") => `(tactic| first
  | ((with_reducible apply s_asg); walk_at "w")
  | ((with_reducible apply s_asgT); walk_at "w")
  | ((with_reducible apply s_par); walk_at "w")
  | ((with_reducible apply s_ex); walk_at "w")
  | ((with_reducible apply s_ite); walk_at "w")
  | ((with_reducible apply s_ret); (focus (exact rfl)); walk_at "w")
  | ((with_reducible apply s_ret0); walk_at "w")
  | ((with_reducible apply s_whl); walk_at "w")
  | ((with_reducible apply s_for); walk_at "w")
  | ((with_reducible apply s_pass); walk_at "w")
  | ((with_reducible apply s_brk); walk_at "w")
  | ((with_reducible apply s_cnt); walk_at "w")
  | ((with_reducible apply s_retV); (focus (exact rfl)); walk_at "w")
  | ((with_reducible apply s_retO); (focus (exact rfl)); walk_at "w")
  | ((with_reducible apply s_set); (focus (exact rfl)); walk_at "w")
  | ((with_reducible apply s_app); (focus (exact rfl)); walk_at "w"))
local macro_rules | `(tactic| walk_at "gSs") => `(tactic| first
  | ((with_reducible apply ss_cons); walk_at "w")
  | ((with_reducible apply ss_nil); walk_at "w"))
local macro_rules | `(tactic| walk_at "gBin") => `(tactic| first
  | ((with_reducible apply o_addI); walk_at "w")
  | ((with_reducible apply o_mulI); (focus (walk_at "s")); walk_at "w")
  | ((with_reducible apply o_subI); walk_at "w")
  | ((with_reducible apply o_fdivI); (focus (walk_at "s")); walk_at "w")
  | ((with_reducible apply o_modI); (focus (walk_at "s")); walk_at "w")
  | ((with_reducible apply o_powI); (focus (walk_at "s")); walk_at "w")
  | ((with_reducible apply o_addL); (focus (walk_at "s")); walk_at "w")
  | ((with_reducible apply o_addT); (focus (walk_at "s")); walk_at "w")
  | ((with_reducible apply o_mulT); (focus (exact ⟨(fun h => by cases h), by decide, by decide, by decide⟩)); walk_at "w")
  | ((with_reducible apply o_mulL); (focus (first | exact ⟨by decide, by decide, by decide⟩ | exact ⟨by omega, by omega, by simp; omega⟩)); walk_at "w"))
local macro_rules | `(tactic| walk_at "gCmp") => `(tactic| first
  | ((with_reducible apply o_eqI); walk_at "w")
  | ((with_reducible apply o_neI); walk_at "w")
  | ((with_reducible apply o_ltI); walk_at "w")
  | ((with_reducible apply o_leI); walk_at "w")
  | ((with_reducible apply o_gtI); walk_at "w")
  | ((with_reducible apply o_geI); walk_at "w")
  | ((with_reducible apply o_eq); (focus (walk_at "s")); walk_at "w")
  | ((with_reducible apply o_ne); (focus (walk_at "s")); walk_at "w")
  | ((with_reducible apply o_inT); (focus (walk_at "s")); walk_at "w")
  | ((with_reducible apply o_ninT); (focus (walk_at "s")); walk_at "w")
  | ((with_reducible apply o_inL); (focus (walk_at "s")); walk_at "w")
  | ((with_reducible apply o_ninL); (focus (walk_at "s")); walk_at "w"))
local macro_rules | `(tactic| walk_at "gTru") => `(tactic| first
  | ((with_reducible apply o_truB); walk_at "w")
  | ((with_reducible apply o_truI); walk_at "w")
  | ((with_reducible apply o_truL); walk_at "w")
  | ((with_reducible apply o_truT); walk_at "w")
  | ((with_reducible apply o_truN); walk_at "w"))
local macro_rules | `(tactic| walk_at "gBi1") => `(tactic| first
  | ((with_reducible apply o_lenL); walk_at "w")
  | ((with_reducible apply o_lenT); walk_at "w")
  | ((with_reducible apply o_abs); walk_at "w")
  | ((with_reducible apply o_int); walk_at "w")
  | ((with_reducible apply o_listL); walk_at "w")
  | ((with_reducible apply o_listT); walk_at "w")
  | ((with_reducible apply o_tupL); walk_at "w")
  | ((with_reducible apply o_tupT); walk_at "w"))
local macro_rules | `(tactic| walk_at "gStp") => `(tactic| first
  | ((with_reducible apply dx_list); (focus (exact rfl)); walk_at "w")
  | ((with_reducible apply dx_tup); (focus (exact rfl)); walk_at "w")
  | ((with_reducible apply ss_go); walk_at "w")
  | walk_at "k")
local macro_rules | `(tactic| walk_at "gBr") => `(tactic| first
  | ((with_reducible refine brT ?_ ?_); (focus (exact rfl)); walk_at "w")
  | ((with_reducible refine brF ?_ ?_); (focus (exact rfl)); walk_at "w"))
local macro_rules | `(tactic| walk_at "w") => `(tactic| first
  | ((with_reducible apply gO); walk_at "gO")
  | ((with_reducible apply gP); walk_at "gP")
  | ((with_reducible apply gE); walk_at "gE")
  | ((with_reducible apply r_at); (focus (walk_at "ev")); walk_at "w")
  | ((with_reducible apply r_oD); walk_at "w")
  | ((with_reducible refine And.intro ?_ ?_); (focus (walk_at "s")); walk_at "w")
  | ((with_reducible apply gSs); walk_at "gSs")
  | ((with_reducible apply gS); walk_at "gS")
  | ((with_reducible apply gT); walk_at "gT")
  | ((with_reducible apply gBin); walk_at "gBin")
  | ((with_reducible apply gCmp); walk_at "gCmp")
  | ((with_reducible apply gTru); walk_at "gTru")
  | ((with_reducible apply gBr); walk_at "gBr")
  | ((with_reducible apply gStp); walk_at "gStp")
  | ((with_reducible apply es_cons); walk_at "w")
  | ((with_reducible apply es_nil); walk_at "w")
  | ((with_reducible apply as_nil); walk_at "w")
  | ((with_reducible apply as_val); walk_at "w")
  | ((with_reducible apply as_ref); (focus (walk_at "s")); walk_at "w")
  | ((with_reducible apply gBi1); walk_at "gBi1")
  | ((with_reducible apply b_n); (focus (walk_at "s")); walk_at "w")
  | ((with_reducible apply b_t); walk_at "w")
  | ((with_reducible apply bs_cons); walk_at "w")
  | ((with_reducible apply bs_nil); walk_at "w")
  | ((with_reducible apply rs_cons); walk_at "w")
  | ((with_reducible apply rs_nil); walk_at "w")
  | ((with_reducible apply Rt_go); (focus (with_reducible assumption)); (focus (walk_at "ev")); walk_at "w")
  | ((with_reducible apply wl_succ); walk_at "w")
  | ((with_reducible apply it_e); walk_at "w")
  | ((with_reducible apply it_rng1); walk_at "w")
  | ((with_reducible apply it_rng2); walk_at "w")
  | ((with_reducible apply it_zip); walk_at "w")
  | ((with_reducible apply zip_l); walk_at "w")
  | ((with_reducible apply zip_t); walk_at "w")
  | ((with_reducible apply it_enum); walk_at "w")
  | ((with_reducible apply enu_l); walk_at "w")
  | ((with_reducible apply to_som); walk_at "w")
  | ((with_reducible apply to_non); walk_at "w")
  | ((with_reducible apply eo_som); walk_at "w")
  | ((with_reducible apply eo_non); walk_at "w")
  | ((with_reducible apply wf_cons); (focus (walk_at "s")); walk_at "w")
  | ((with_reducible apply wf_nil); (focus (walk_at "s")); walk_at "w")
  | ((with_reducible apply wc_cons); (focus (walk_at "s")); walk_at "w")
  | ((with_reducible apply wc_nil); (focus (walk_at "s")); walk_at "w")
  | ((with_reducible apply r_lstS); (focus (exact rfl)); walk_at "w")
  | ((with_reducible apply r_lstN); (focus (exact rfl)); walk_at "w")
  | ((with_reducible apply o_isNN); walk_at "w")
  | ((with_reducible apply o_isN); (focus (exact rfl)); walk_at "w")
  | ((with_reducible apply o_isB); walk_at "w")
  | ((with_reducible apply o_max2); walk_at "w")
  | ((with_reducible apply o_min2); walk_at "w")
  | ((with_reducible apply o_slL); walk_at "w")
  | ((with_reducible apply o_slT); walk_at "w")
  | ((with_reducible apply o_revL); walk_at "w")
  | ((with_reducible apply set_go); (focus (exact rfl)); (focus (decide)); (focus (exact rfl)); walk_at "w")
  | ((with_reducible apply app_go); (focus (exact rfl)); (focus (decide)); (focus (walk_at "s")); walk_at "w")
  | skip)
local macro_rules | `(tactic| walk_at "f") => `(tactic| (conv => whnf); first
  | exact True.intro
  | ((refine And.intro True.intro ?_); walk_at "f"))
local macro_rules | `(tactic| walk_at "c") => `(tactic| (apply enterR); (focus (exact rfl)); (focus (walk_at "f")); (focus (walk_at "ev")); (focus ((intro R hR); walk_at "w")))
local macro_rules | `(tactic| walk_at "o") => `(tactic| (first | with_reducible apply wc_openI | with_reducible apply wc_openV | with_reducible apply wf_openI | with_reducible apply wf_openV); (focus (walk_at "ev")); walk_at "w")
local macro_rules | `(tactic| walk_at "p") => `(tactic| (first | with_reducible apply wc_keepI | with_reducible apply wc_keepV | with_reducible apply wf_keepI | with_reducible apply wf_keepV); (focus (walk_at "ev")))
local macro_rules | `(tactic| walk_at "k") => `(tactic| fail "no spec")
local macro_rules | `(tactic| walk_at "lx") => `(tactic| first
  | exact lv_nil rfl
  | ((apply lv_cons); (focus (exact rfl)); (focus (conv => lhs; whnf)); walk_at "lx"))
local macro_rules | `(tactic| walk_at "oo") => `(tactic| (first | with_reducible apply wc_openLI | with_reducible apply wc_openLV | with_reducible apply wf_openLI | with_reducible apply wf_openLV); (focus (walk_at "ev")); (focus (walk_at "lx")); walk_at "w")
local macro_rules | `(tactic| walk_at "uO") => `(tactic| first
  | ((with_reducible apply r_oV); (focus (walk_at "s")); walk_at "u")
  | ((with_reducible apply r_oE); (focus (exact rfl)); walk_at "u"))
local macro_rules | `(tactic| walk_at "uP") => `(tactic| first
  | ((with_reducible apply r_lend); (focus (exact rfl)); (focus (walk_at "ev")); walk_at "u")
  | ((with_reducible apply r_oP); (focus (exact rfl)); walk_at "u"))
local macro_rules | `(tactic| walk_at "uE") => `(tactic| first
  | ((with_reducible apply r_bin); walk_at "u")
  | ((with_reducible apply r_ix); walk_at "u")
  | ((with_reducible apply r_c); walk_at "u")
  | ((with_reducible apply r_vv); (focus (exact rfl)); walk_at "u")
  | ((with_reducible apply r_call); (focus (walk_at "bl")); walk_at "u")
  | ((with_reducible apply r_tup); walk_at "u")
  | ((with_reducible apply r_lst); walk_at "u")
  | ((with_reducible apply r_g); walk_at "u")
  | ((with_reducible apply r_neg); walk_at "u")
  | ((with_reducible apply r_cmp); walk_at "u")
  | ((with_reducible apply r_chain); walk_at "u")
  | ((with_reducible apply r_chain3); walk_at "u")
  | ((with_reducible apply r_isc); walk_at "u")
  | ((with_reducible apply r_and); walk_at "u")
  | ((with_reducible apply r_or); walk_at "u")
  | ((with_reducible apply r_not); walk_at "u")
  | ((with_reducible apply r_ite); walk_at "u")
  | ((with_reducible apply r_sl); walk_at "u")
  | ((with_reducible apply r_rev); walk_at "u")
  | ((with_reducible apply r_isi); walk_at "u")
  | ((with_reducible apply r_bi2); walk_at "u")
  | ((with_reducible apply r_lc); walk_at "u")
  | ((with_reducible apply r_list); walk_at "u")
  | ((with_reducible apply r_vo); (focus (exact rfl)); walk_at "u")
  | ((with_reducible apply r_vs); (focus (exact rfl)); walk_at "u")
  | ((with_reducible apply r_bi1); (focus (decide)); walk_at "u"))
local macro_rules | `(tactic| walk_at "uT") => `(tactic| first
  | ((with_reducible apply t_cmp); walk_at "u")
  | ((with_reducible apply t_and); walk_at "u")
  | ((with_reducible apply t_or); walk_at "u")
  | ((with_reducible apply t_not); walk_at "u")
  | ((with_reducible apply t_chain); walk_at "u")
  | ((with_reducible apply t_chain3); walk_at "u")
  | ((with_reducible apply t_isc); walk_at "u")
  | ((with_reducible apply t_isi); walk_at "u")
  | ((with_reducible apply t_bi1); walk_at "u")
  | ((with_reducible apply t_ix); walk_at "u")
  | ((with_reducible apply t_call); walk_at "u")
  | ((with_reducible apply t_bin); walk_at "u")
  | ((with_reducible apply t_v); (focus (exact rfl)); walk_at "u"))
local macro_rules | `(tactic| walk_at "uS") => `(tactic| first
  | ((with_reducible apply s_asg); walk_at "u")
  | ((with_reducible apply s_asgT); walk_at "u")
  | ((with_reducible apply s_par); walk_at "u")
  | ((with_reducible apply s_ex); walk_at "u")
  | ((with_reducible apply s_ite); walk_at "u")
  | ((with_reducible apply s_ret); (focus (exact rfl)); walk_at "u")
  | ((with_reducible apply s_ret0); walk_at "u")
  | ((with_reducible apply s_whl); walk_at "u")
  | ((with_reducible apply s_for); walk_at "u")
  | ((with_reducible apply s_pass); walk_at "u")
  | ((with_reducible apply s_brk); walk_at "u")
  | ((with_reducible apply s_cnt); walk_at "u")
  | ((with_reducible apply s_retV); (focus (exact rfl)); walk_at "u")
  | ((with_reducible apply s_retO); (focus (exact rfl)); walk_at "u")
  | ((with_reducible apply s_set); (focus (exact rfl)); walk_at "u")
  | ((with_reducible apply s_app); (focus (exact rfl)); walk_at "u"))
local macro_rules | `(tactic| walk_at "uSs") => `(tactic| first
  | ((with_reducible apply ss_cons); walk_at "u")
  | ((with_reducible apply ss_nil); walk_at "u"))
local macro_rules | `(tactic| walk_at "uBin") => `(tactic| first
  | ((with_reducible apply o_addI); walk_at "u")
  | ((with_reducible apply o_mulI); (focus (walk_at "s")); walk_at "u")
  | ((with_reducible apply o_subI); walk_at "u")
  | ((with_reducible apply o_fdivI); (focus (walk_at "s")); walk_at "u")
  | ((with_reducible apply o_modI); (focus (walk_at "s")); walk_at "u")
  | ((with_reducible apply o_powI); (focus (walk_at "s")); walk_at "u")
  | ((with_reducible apply o_addL); (focus (walk_at "s")); walk_at "u")
  | ((with_reducible apply o_addT); (focus (walk_at "s")); walk_at "u")
  | ((with_reducible apply o_mulT); (focus (exact ⟨(fun h => by cases h), by decide, by decide, by decide⟩)); walk_at "u")
  | ((with_reducible apply o_mulL); (focus (first | exact ⟨by decide, by decide, by decide⟩ | exact ⟨by omega, by omega, by simp; omega⟩)); walk_at "u"))
local macro_rules | `(tactic| walk_at "uCmp") => `(tactic| first
  | ((with_reducible apply o_eqI); walk_at "u")
  | ((with_reducible apply o_neI); walk_at "u")
  | ((with_reducible apply o_ltI); walk_at "u")
  | ((with_reducible apply o_leI); walk_at "u")
  | ((with_reducible apply o_gtI); walk_at "u")
  | ((with_reducible apply o_geI); walk_at "u")
  | ((with_reducible apply o_eq); (focus (walk_at "s")); walk_at "u")
  | ((with_reducible apply o_ne); (focus (walk_at "s")); walk_at "u")
  | ((with_reducible apply o_inT); (focus (walk_at "s")); walk_at "u")
  | ((with_reducible apply o_ninT); (focus (walk_at "s")); walk_at "u")
  | ((with_reducible apply o_inL); (focus (walk_at "s")); walk_at "u")
  | ((with_reducible apply o_ninL); (focus (walk_at "s")); walk_at "u"))
local macro_rules | `(tactic| walk_at "uTru") => `(tactic| first
  | ((with_reducible apply o_truB); walk_at "u")
  | ((with_reducible apply o_truI); walk_at "u")
  | ((with_reducible apply o_truL); walk_at "u")
  | ((with_reducible apply o_truT); walk_at "u")
  | ((with_reducible apply o_truN); walk_at "u"))
local macro_rules | `(tactic| walk_at "uBi1") => `(tactic| first
  | ((with_reducible apply o_lenL); walk_at "u")
  | ((with_reducible apply o_lenT); walk_at "u")
  | ((with_reducible apply o_abs); walk_at "u")
  | ((with_reducible apply o_int); walk_at "u")
  | ((with_reducible apply o_listL); walk_at "u")
  | ((with_reducible apply o_listT); walk_at "u")
  | ((with_reducible apply o_tupL); walk_at "u")
  | ((with_reducible apply o_tupT); walk_at "u"))
local macro_rules | `(tactic| walk_at "uStp") => `(tactic| first
  | ((with_reducible apply dx_list); (focus (exact rfl)); walk_at "u")
  | ((with_reducible apply dx_tup); (focus (exact rfl)); walk_at "u")
  | walk_at "ku")
local macro_rules | `(tactic| walk_at "uBr") => `(tactic| first
  | ((with_reducible refine brT ?_ ?_); (focus (exact rfl)); walk_at "u")
  | ((with_reducible refine brF ?_ ?_); (focus (exact rfl)); walk_at "u"))
local macro_rules | `(tactic| walk_at "u") => `(tactic| first
  | ((with_reducible apply gO); walk_at "uO")
  | ((with_reducible apply gP); walk_at "uP")
  | ((with_reducible apply gE); walk_at "uE")
  | ((with_reducible apply r_at); (focus (walk_at "ev")); walk_at "u")
  | ((with_reducible apply r_oD); walk_at "u")
  | ((with_reducible refine And.intro ?_ ?_); (focus (walk_at "s")); walk_at "u")
  | ((with_reducible apply gSs); walk_at "uSs")
  | ((with_reducible apply gS); walk_at "uS")
  | ((with_reducible apply gT); walk_at "uT")
  | ((with_reducible apply gBin); walk_at "uBin")
  | ((with_reducible apply gCmp); walk_at "uCmp")
  | ((with_reducible apply gTru); walk_at "uTru")
  | ((with_reducible apply gBr); walk_at "uBr")
  | ((with_reducible apply gStp); walk_at "uStp")
  | ((with_reducible apply es_cons); walk_at "u")
  | ((with_reducible apply es_nil); walk_at "u")
  | ((with_reducible apply as_nil); walk_at "u")
  | ((with_reducible apply as_val); walk_at "u")
  | ((with_reducible apply as_ref); (focus (walk_at "s")); walk_at "u")
  | ((with_reducible apply gBi1); walk_at "uBi1")
  | ((with_reducible apply b_n); (focus (walk_at "s")); walk_at "u")
  | ((with_reducible apply b_t); walk_at "u")
  | ((with_reducible apply bs_cons); walk_at "u")
  | ((with_reducible apply bs_nil); walk_at "u")
  | ((with_reducible apply rs_cons); walk_at "u")
  | ((with_reducible apply rs_nil); walk_at "u")
  | ((with_reducible apply Rt_go); (focus (with_reducible assumption)); (focus (walk_at "ev")); walk_at "u")
  | ((with_reducible apply wl_succ); walk_at "u")
  | ((with_reducible apply it_e); walk_at "u")
  | ((with_reducible apply it_rng1); walk_at "u")
  | ((with_reducible apply it_rng2); walk_at "u")
  | ((with_reducible apply it_zip); walk_at "u")
  | ((with_reducible apply zip_l); walk_at "u")
  | ((with_reducible apply zip_t); walk_at "u")
  | ((with_reducible apply it_enum); walk_at "u")
  | ((with_reducible apply enu_l); walk_at "u")
  | ((with_reducible apply to_som); walk_at "u")
  | ((with_reducible apply to_non); walk_at "u")
  | ((with_reducible apply eo_som); walk_at "u")
  | ((with_reducible apply eo_non); walk_at "u")
  | ((with_reducible apply wf_cons); (focus (walk_at "s")); walk_at "u")
  | ((with_reducible apply wf_nil); (focus (walk_at "s")); walk_at "u")
  | ((with_reducible apply wc_cons); (focus (walk_at "s")); walk_at "u")
  | ((with_reducible apply wc_nil); (focus (walk_at "s")); walk_at "u")
  | ((with_reducible apply r_lstS); (focus (exact rfl)); walk_at "u")
  | ((with_reducible apply r_lstN); (focus (exact rfl)); walk_at "u")
  | ((with_reducible apply o_isNN); walk_at "u")
  | ((with_reducible apply o_isN); (focus (exact rfl)); walk_at "u")
  | ((with_reducible apply o_isB); walk_at "u")
  | ((with_reducible apply o_max2); walk_at "u")
  | ((with_reducible apply o_min2); walk_at "u")
  | ((with_reducible apply o_slL); walk_at "u")
  | ((with_reducible apply o_slT); walk_at "u")
  | ((with_reducible apply o_revL); walk_at "u")
  | ((with_reducible apply set_go); (focus (exact rfl)); (focus (decide)); (focus (exact rfl)); walk_at "u")
  | ((with_reducible apply app_go); (focus (exact rfl)); (focus (decide)); (focus (walk_at "s")); walk_at "u")
  | skip)
local macro_rules | `(tactic| walk_at "ku") => `(tactic| fail "no spec")
local macro_rules | `(tactic| walk_at "a") => `(tactic| (with_reducible apply ss_go); (with_reducible apply ss_cons); (with_reducible apply s_asg))
local macro_rules | `(tactic| walk_at "cu") => `(tactic| (apply enterR); (focus (exact rfl)); (focus (walk_at "f")); (focus (walk_at "ev")); (focus ((intro R hR); walk_at "u")))
local macro_rules | `(tactic| walk_at "s1") => `(tactic| (with_reducible apply ss_go); (with_reducible apply ss_cons))
theorem Nm.fc {n : Int} (h : Nm n) : Nf.Fc n.toNat (Nf.fac n.toNat) := Nf.fac_fc (by have := h.lo; omega) (by have := h.hi; omega)
theorem Nm.le {n : Int} (h : Nm n) : n.toNat ≤ 10 ^ 10 := by have := h.hi; omega
theorem dP_eq {p e : Nat} {P E : Int} (h : P = p) (h2 : E = e) : Nf.dP (p, e) = .tuple [.int P, .int E] := by subst h h2; rfl
theorem pows {n : Int} (h : Nm n) {x : Nat × Nat} (hx : x ∈ Nf.fac n.toNat) : x.1 ^ x.2 ≤ 10 ^ 10 ∧ 2 ≤ x.1 ∧ x.1 ≤ 10 ^ 10 ∧ 1 ≤ x.2 ∧ x.2 ≤ 33 := h.fc.pow h.le hx
theorem pow_bd {p j e : Nat} (h : p ^ e ≤ 10 ^ 10) (hp : 1 ≤ p) (hj : j ≤ e) : Bd 40 ((p : Int) ^ j) := by
  have h1 := Nat.pow_le_pow_right hp hj
  have e1 : ((p : Int) ^ j) = ((p ^ j : Nat) : Int) := (Int.natCast_pow p j).symm
  rw [e1]
  refine .of ?_
  rw [Int.natAbs_natCast]
  have e2 : 2 ^ 40 = 1099511627776 := by decide
  omega
theorem fold_bd : ∀ (l : Nf.L), (∀ x ∈ l, x.1 ^ x.2 ≤ 10 ^ 10 ∧ 1 ≤ x.1) → ∀ (f : List Int) (m : Nat), (∀ d ∈ f, Bd m d) → ∀ d ∈ l.foldl Nf.expA f, Bd (m + 40 * l.length) d
  | [], _, f, m, h, d, hd => h d hd
  | x :: l, hl, f, m, h, d, hd => by
    have hx := hl x (List.mem_cons_self ..)
    have h2 : ∀ d ∈ Nf.expA f x, Bd (m + 40) d := fun d hd => by
      unfold Nf.expA Nf.expN at hd
      obtain ⟨j, hj, hd⟩ := List.mem_flatMap.mp hd
      obtain ⟨c, hc, rfl⟩ := List.mem_map.mp hd
      exact (h c hc).mul (pow_bd hx.1 hx.2 (by have := List.mem_range.mp hj; omega))
    have := fold_bd l (fun y hy => hl y (List.mem_cons_of_mem _ hy)) (Nf.expA f x) (m + 40) h2 d hd
    rw [List.length_cons]
    exact this.mono (by omega)
theorem dvs_bd {l : Nf.L} (h : ∀ x ∈ l, x.1 ^ x.2 ≤ 10 ^ 10 ∧ 1 ≤ x.1) (hl : l.length ≤ 33) : ∀ d ∈ Nf.dvs l, Bd 2000 d := fun d hd =>
  (fold_bd l h [1] 2 (fun d hd => by rw [List.mem_singleton.mp hd]; exact .of (i := 1) (by decide)) d hd).mono (by omega)
theorem prod_bd {g : Nat × Nat → Int} {m : Nat} : ∀ (l : Nf.L), (∀ x ∈ l, Bd m (g x)) → Bd (m * l.length + 2) (Nf.prodI g l)
  | [], _ => .of (i := 1) (by show _ < 2 ^ (m * 0 + 2); rw [Nat.mul_zero]; decide)
  | x :: l, h => by
    have h1 := (h x (List.mem_cons_self ..)).mul (prod_bd l fun y hy => h y (List.mem_cons_of_mem _ hy))
    rw [List.length_cons, Nat.mul_succ]
    exact h1.mono (by omega)
def mulD (c : Int) : D → D
  | .int d => .int (d * c)
  | _ => .none
theorem mulD_map (c : Int) (l : List Int) : (l.map PyData.int).map (mulD c) = (l.map fun d => d * c).map PyData.int := by
  rw [List.map_map, List.map_map]
  rfl
theorem isI (l : List Int) : ∀ x ∈ l.map PyData.int, ∃ f ∈ l, x = .int f := fun x hx => by
  obtain ⟨f, hf, rfl⟩ := List.mem_map.mp hx
  exact ⟨f, hf, rfl⟩
theorem line6 {n : Nat} (h : n ≤ 1000000) : n ≤ sizeLine := Nat.le_trans h (of_decide_eq_true rfl)
theorem sp_divisors_in {k : Nat} (hk : 2 ≤ k) {n : Int} (h : Nm n) {Q : Sl → List Sl → Prop} (hQ : Q (.own .free ((Nf.isort (Nf.dvs (Nf.fac n.toNat))).map PyData.int)) [.no]) : stp (wCall fns k 9 [.val (.int n)] Q) := by
  obtain ⟨k, rfl⟩ := Nat.exists_eq_add_of_le' hk
  have fc := h.fc
  have hlen := fc.len h.le
  have hpow : ∀ x ∈ Nf.fac n.toNat, _ := fun x hx => pows h hx
  walk_at "c"
  refine sp_factors_in (by omega) h ?_
  walk_at "w"
  generalize Nf.fac n.toNat = all at *
  refine dFor_run (fun l e => ∃ (done rest : Nf.L) (xf x2 x3 x4 x5 x6 : Sl), e = [.val (.int n), xf, x2, x3, x4, x5, x6, .no] ∧ (xf = .own .free ((Nf.dvs done).map PyData.int) ∨ xf = .val (.list ((Nf.dvs done).map PyData.int))) ∧ freeSl (some x2) ∧ freeSl (some x3) ∧ freeSl (some x4) ∧ freeSl (some x5) ∧ freeSl (some x6) ∧ l = rest.map Nf.dP ∧ done ++ rest = all) ?_ ?_ ⟨[], all, _, .no, .no, .no, .no, .no, rfl, .inl rfl, trivial, trivial, trivial, trivial, trivial, rfl, rfl⟩
  · rintro e ⟨done, rest, xf, x2, x3, x4, x5, x6, rfl, hxf, f2, f3, f4, f5, f6, hl, hall⟩
    have hr : rest = [] := List.map_eq_nil_iff.mp hl.symm
    subst hr
    rw [List.append_nil] at hall
    subst hall
    rcases hxf with rfl | rfl
    all_goals
      walk_at "w"
      refine o_sorted (ns := Nf.dvs done) rfl fun ns' pe so => ?_
      rw [Nf.isort_uniq pe so]
      walk_at "w"
      exact hQ
  · rintro x xs e ⟨done, rest, xf, x2, x3, x4, x5, x6, rfl, hxf, f2, f3, f4, f5, f6, hl, hall⟩ next
    cases rest with
    | nil => cases hl
    | cons y rest =>
      obtain ⟨p, ee⟩ := y
      injection hl with hx hxs
      have hy := hpow (p, ee) (by rw [← hall]; simp)
      simp only at hy
      have part := Nf.Fc.part (x := (p, ee)) (by rw [hall]; exact fc) h.le
      have hdl : done.length ≤ 33 := by
        have := congrArg List.length hall
        rw [List.length_append] at this
        omega
      have hbd := dvs_bd (l := done) (fun x hx => by
        have := hpow x (by rw [← hall]; exact List.mem_append_left _ hx)
        exact ⟨this.1, by omega⟩) hdl
      have hdv := Nf.dvs_len done
      obtain ⟨P, hP⟩ : ∃ P : Int, P = p := ⟨_, rfl⟩
      obtain ⟨E, hE⟩ : ∃ E : Int, E = ee := ⟨_, rfl⟩
      rw [hx, dP_eq hP hE]
      have bP : Bd 64 P := .of (by omega)
      walk_at "u"
      refine cutE (.val (.list ((Nf.dvs done).map PyData.int))) [.val (.int n), .val (.list ((Nf.dvs done).map PyData.int)), .val (.int P), .val (.int E), x4, x5, x6, .no] ?_ ?_
      · rcases hxf with rfl | rfl
        all_goals
          walk_at "w"
          rfl
      walk_at "w"
      refine dFor_run (fun l e => ∃ (j : Nat) (T : Int) (x4 x6 : Sl), e = [.val (.int n), .val (.list ((Nf.dvs done).map PyData.int)), .val (.int P), .val (.int E), x4, .val (.int T), x6, .no] ∧ (x4 = .own .free ((Nf.expN (Nf.dvs done) (p, ee) (j + 1)).map PyData.int) ∨ x4 = .val (.list ((Nf.expN (Nf.dvs done) (p, ee) (j + 1)).map PyData.int))) ∧ freeSl (some x6) ∧ T = (p : Int) ^ j ∧ l.length + j = ee) ?_ ?_ ⟨0, 1, _, _, rfl, .inr (by rw [Nf.expN_one]), f6, (Int.pow_zero _).symm, ?_⟩
      · rintro e ⟨j, T, x4, x6, rfl, hx4, f6, hT, hj⟩
        have hj : j = ee := by simpa using hj
        subst hj
        have e1 : Nf.expN (Nf.dvs done) (p, j) (j + 1) = Nf.dvs (done ++ [(p, j)]) := by rw [Nf.dvs_snoc]; rfl
        rw [e1] at hx4
        rcases hx4 with rfl | rfl
        all_goals
          walk_at "w"
          exact next _ ⟨done ++ [(p, j)], rest, _, _, _, _, _, _, rfl, .inr rfl, trivial, trivial, trivial, trivial, f6, hxs, by rw [List.append_assoc]; exact hall⟩
      · rintro x xs e ⟨j, T, x4, x6, rfl, hx4, f6, hT, hj⟩ next2
        rw [List.length_cons] at hj
        have bT : Bd 40 T := by rw [hT]; exact pow_bd hy.1 (by omega) (by omega)
        have bT' : Bd 110 (T * P) := (bT.mul bP).mono (by decide)
        have i1 : IntMulOk T P := mulOk bT bP (by omega)
        have eT : T * P = (p : Int) ^ (j + 1) := by rw [hT, hP, Int.pow_succ]
        have ln : (Nf.expN (Nf.dvs done) (p, ee) (j + 1)).length + (Nf.dvs done).length ≤ 400000 := by
          rw [Nf.expN_len, hdv]
          have h1 : (j + 1) * Nf.cntN done + Nf.cntN done = Nf.cntN done * (j + 2) := by grind
          have h2 : Nf.cntN done * (j + 2) ≤ Nf.cntN done * (ee + 1) := Nat.mul_le_mul_left _ (by omega)
          simp only at part
          omega
        rcases hx4 with rfl | rfl
        all_goals
          walk_at "w"
          walk_at "p"
          refine dComp_map (mulD (T * P)) (fun x => ∃ d ∈ Nf.dvs done, x = .int d) (isI _) (by rw [List.length_map]; exact line6 (by omega)) ?_ ?_
          · rintro _ rest2 acc ⟨d, hd, rfl⟩ hacc next3
            have j1 : IntMulOk d (T * P) := mulOk (hbd d hd) bT' (by omega)
            walk_at "w"
            exact next3
          · rw [mulD_map]
            walk_at "w"
            refine o_addL (by rw [List.length_map, List.length_map, List.length_map]; exact line6 (by omega)) ?_
            rw [← List.map_append, eT, ← Nf.expN_succ]
            walk_at "w"
            exact next2 _ ⟨j + 1, _, _, _, rfl, .inl rfl, trivial, rfl, by omega⟩
      · show (rngD 0 E.toNat).length + 0 = ee
        unfold rngD
        simp
        omega
end K03

set_option Elab.async false
set_option linter.all false
set_option maxRecDepth 100000
set_option maxHeartbeats 0
set_option exponentiation.threshold 4000
namespace K03
open PySem PySem.Spec PyProof.Rows L2 DL
local macro_rules | `(tactic| walk_at "bd") => `(tactic| repeat' (first
  | with_reducible assumption
  | with_reducible apply Bd.add
  | with_reducible apply Bd.sub
  | with_reducible apply Bd.mul
  | with_reducible apply Bd.neg
  | with_reducible apply Bd.fdiv
  | ((with_reducible apply Bd.fmod); (focus (first | decide | omega)))
  | with_reducible apply Bd.abs
  | exact Bd.lit (by decide) (by decide)
  | exact Bd.lit (by omega) (by omega)
  | exact Bd.lit2 (by decide) (by decide)))
local macro_rules | `(tactic| walk_at "pl") => `(tactic| first
  | with_reducible exact plN
  | ((with_reducible refine plC ?_ ?_); (focus (first | exact (show plainSl _ from True.intro) | exact (show plainSl _ from by assumption))); walk_at "pl"))
local macro_rules | `(tactic| walk_at "fl") => `(tactic| first
  | with_reducible exact flN
  | ((with_reducible refine flC ?_ ?_); (focus (first | exact (show freeSl _ from True.intro) | exact (show freeSl _ from by assumption))); walk_at "fl"))
local macro_rules | `(tactic| walk_at "s") => `(tactic| first
  | exact (show hasSl _ _ from True.intro)
  | exact (show freeSl _ from True.intro)
  | exact (show stillW _ _ from True.intro)
  | exact (show stillW _ _ from rfl)
  | exact (show freeSl _ from by assumption)
  | walk_at "pl"
  | walk_at "fl"
  | ((with_reducible apply mulR); exact Bd.lit (by decide) (by decide))
  | ((with_reducible apply mulL); exact Bd.lit (by decide) (by decide))
  | ((with_reducible apply mulOk); (focus (walk_at "bd")); (focus (walk_at "bd")); (focus (decide)))
  | exact (show CPow _ _ from ⟨by decide, by decide, by decide⟩)
  | ((with_reducible apply divOk) <;> first | decide | assumption | omega)
  | with_reducible assumption
  | exact ⟨rfl, rfl⟩
  | exact Nat.le_of_ble_eq_true rfl
  | exact of_decide_eq_true rfl
  | rfl
  | decide
  | omega)
local macro_rules | `(tactic| walk_at "ev") => `(tactic| first
  | exact ev_nil rfl
  | ((apply ev_cons); (focus (exact rfl)); (focus (conv => lhs; whnf)); walk_at "ev"))
local macro_rules | `(tactic| walk_at "bl") => `(tactic| first
  | exact bl_nil rfl
  | ((apply bl_cons); (focus (exact rfl)); (focus (conv => lhs; whnf)); walk_at "bl"))
local macro_rules | `(tactic| walk_at "gO") => `(tactic| first
  | ((with_reducible apply r_oV); (focus (walk_at "s")); walk_at "w")
  | ((with_reducible apply r_oE); (focus (exact rfl)); walk_at "w"))
local macro_rules | `(tactic| walk_at "gP") => `(tactic| first
  | ((with_reducible apply r_lend); (focus (exact rfl)); (focus (walk_at "ev")); walk_at "w")
  | ((with_reducible apply r_oP); (focus (exact rfl)); walk_at "w"))
local macro_rules | `(tactic| walk_at "gE") => `(tactic| first
  | ((with_reducible apply r_bin); walk_at "w")
  | ((with_reducible apply r_ix); walk_at "w")
  | ((with_reducible apply r_c); walk_at "w")
  | ((with_reducible apply r_vv); (focus (exact rfl)); walk_at "w")
  | ((with_reducible apply r_call); (focus (walk_at "bl")); walk_at "w")
  | ((with_reducible apply r_tup); walk_at "w")
  | ((with_reducible apply r_lst); walk_at "w")
  | ((with_reducible apply r_g); walk_at "w")
  | ((with_reducible apply r_neg); walk_at "w")
  | ((with_reducible apply r_cmp); walk_at "w")
  | ((with_reducible apply r_chain); walk_at "w")
  | ((with_reducible apply r_chain3); walk_at "w")
  | ((with_reducible apply r_isc); walk_at "w")
  | ((with_reducible apply r_and); walk_at "w")
  | ((with_reducible apply r_or); walk_at "w")
  | ((with_reducible apply r_not); walk_at "w")
  | ((with_reducible apply r_ite); walk_at "w")
  | ((with_reducible apply r_sl); walk_at "w")
  | ((with_reducible apply r_rev); walk_at "w")
  | ((with_reducible apply r_isi); walk_at "w")
  | ((with_reducible apply r_bi2); walk_at "w")
  | ((with_reducible apply r_lc); walk_at "w")
  | ((with_reducible apply r_list); walk_at "w")
  | ((with_reducible apply r_vo); (focus (exact rfl)); walk_at "w")
  | ((with_reducible apply r_vs); (focus (exact rfl)); walk_at "w")
  | ((with_reducible apply r_bi1); (focus (decide)); walk_at "w"))
local macro_rules | `(tactic| walk_at "gT") => `(tactic| first
  | ((with_reducible apply t_cmp); walk_at "w")
  | ((with_reducible apply t_and); walk_at "w")
  | ((with_reducible apply t_or); walk_at "w")
  | ((with_reducible apply t_not); walk_at "w")
  | ((with_reducible apply t_chain); walk_at "w")
  | ((with_reducible apply t_chain3); walk_at "w")
  | ((with_reducible apply t_isc); walk_at "w")
  | ((with_reducible apply t_isi); walk_at "w")
  | ((with_reducible apply t_bi1); walk_at "w")
  | ((with_reducible apply t_ix); walk_at "w")
  | ((with_reducible apply t_call); walk_at "w")
  | ((with_reducible apply t_bin); walk_at "w")
  | ((with_reducible apply t_v); (focus (exact rfl)); walk_at "w"))
local macro_rules | `(tactic| walk_at "gS") => `(tactic| first
  | ((with_reducible apply s_asg); walk_at "w")
  | ((with_reducible apply s_asgT); walk_at "w")
  | ((with_reducible apply s_par); walk_at "w")
  | ((with_reducible apply s_ex); walk_at "w")
  | ((with_reducible apply s_ite); walk_at "w")
  | ((with_reducible apply s_ret); (focus (exact rfl)); walk_at "w")
  | ((with_reducible apply s_ret0); walk_at "w")
  | ((with_reducible apply s_whl); walk_at "w")
  | ((with_reducible apply s_for); walk_at "w")
  | ((with_reducible apply s_pass); walk_at "w")
  | ((with_reducible apply s_brk); walk_at "w")
  | ((with_reducible apply s_cnt); walk_at "w")
  | ((with_reducible apply s_retV); (focus (exact rfl)); walk_at "w")
  | ((with_reducible apply s_retO); (focus (exact rfl)); walk_at "w")
  | ((with_reducible apply s_set); (focus (exact rfl)); walk_at "w")
  | ((with_reducible apply s_app); (focus (exact rfl)); walk_at "w"))
local macro_rules | `(tactic| walk_at "gSs") => `(tactic| first
  | ((with_reducible apply ss_cons); walk_at "w")
  | ((with_reducible apply ss_nil); walk_at "w"))
local macro_rules | `(tactic| walk_at "gBin") => `(tactic| first
  | ((with_reducible apply o_addI); walk_at "w")
  | ((with_reducible apply o_mulI); (focus (walk_at "s")); walk_at "w")
  | ((with_reducible apply o_subI); walk_at "w")
  | ((with_reducible apply o_fdivI); (focus (walk_at "s")); walk_at "w")
  | ((with_reducible apply o_modI); (focus (walk_at "s")); walk_at "w")
  | ((with_reducible apply o_powI); (focus (walk_at "s")); walk_at "w")
  | ((with_reducible apply o_addL); (focus (walk_at "s")); walk_at "w")
  | ((with_reducible apply o_addT); (focus (walk_at "s")); walk_at "w")
  | ((with_reducible apply o_mulT); (focus (exact ⟨(fun h => by cases h), by decide, by decide, by decide⟩)); walk_at "w")
  | ((with_reducible apply o_mulL); (focus (first | exact ⟨by decide, by decide, by decide⟩ | exact ⟨by omega, by omega, by simp; omega⟩)); walk_at "w"))
local macro_rules | `(tactic| walk_at "gCmp") => `(tactic| first
  | ((with_reducible apply o_eqI); walk_at "w")
  | ((with_reducible apply o_neI); walk_at "w")
  | ((with_reducible apply o_ltI); walk_at "w")
  | ((with_reducible apply o_leI); walk_at "w")
  | ((with_reducible apply o_gtI); walk_at "w")
  | ((with_reducible apply o_geI); walk_at "w")
  | ((with_reducible apply o_eq); (focus (walk_at "s")); walk_at "w")
  | ((with_reducible apply o_ne); (focus (walk_at "s")); walk_at "w")
  | ((with_reducible apply o_inT); (focus (walk_at "s")); walk_at "w")
  | ((with_reducible apply o_ninT); (focus (walk_at "s")); walk_at "w")
  | ((with_reducible apply o_inL); (focus (walk_at "s")); walk_at "w")
  | ((with_reducible apply o_ninL); (focus (walk_at "s")); walk_at "w"))
local macro_rules | `(tactic| walk_at "gTru") => `(tactic| first
  | ((with_reducible apply o_truB); walk_at "w")
  | ((with_reducible apply o_truI); walk_at "w")
  | ((with_reducible apply o_truL); walk_at "w")
  | ((with_reducible apply o_truT); walk_at "w")
  | ((with_reducible apply o_truN); walk_at "w"))
local macro_rules | `(tactic| walk_at "gBi1") => `(tactic| first
  | ((with_reducible apply o_lenL); walk_at "w")
  | ((with_reducible apply o_lenT); walk_at "w")
  | ((with_reducible apply o_abs); walk_at "w")
  | ((with_reducible apply o_int); walk_at "w")
  | ((with_reducible apply o_listL); walk_at "w")
  | ((with_reducible apply o_listT); walk_at "w")
  | ((with_reducible apply o_tupL); walk_at "w")
  | ((with_reducible apply o_tupT); walk_at "w"))
local macro_rules | `(tactic| walk_at "gStp") => `(tactic| first
  | ((with_reducible apply dx_list); (focus (exact rfl)); walk_at "w")
  | ((with_reducible apply dx_tup); (focus (exact rfl)); walk_at "w")
  | ((with_reducible apply ss_go); walk_at "w")
  | walk_at "k")
local macro_rules | `(tactic| walk_at "gBr") => `(tactic| first
  | ((with_reducible refine brT ?_ ?_); (focus (exact rfl)); walk_at "w")
  | ((with_reducible refine brF ?_ ?_); (focus (exact rfl)); walk_at "w"))
local macro_rules | `(tactic| walk_at "w") => `(tactic| first
  | ((with_reducible apply gO); walk_at "gO")
  | ((with_reducible apply gP); walk_at "gP")
  | ((with_reducible apply gE); walk_at "gE")
  | ((with_reducible apply r_at); (focus (walk_at "ev")); walk_at "w")
  | ((with_reducible apply r_oD); walk_at "w")
  | ((with_reducible refine And.intro ?_ ?_); (focus (walk_at "s")); walk_at "w")
  | ((with_reducible apply gSs); walk_at "gSs")
  | ((with_reducible apply gS); walk_at "gS")
  | ((with_reducible apply gT); walk_at "gT")
  | ((with_reducible apply gBin); walk_at "gBin")
  | ((with_reducible apply gCmp); walk_at "gCmp")
  | ((with_reducible apply gTru); walk_at "gTru")
  | ((with_reducible apply gBr); walk_at "gBr")
  | ((with_reducible apply gStp); walk_at "gStp")
  | ((with_reducible apply es_cons); walk_at "w")
  | ((with_reducible apply es_nil); walk_at "w")
  | ((with_reducible apply as_nil); walk_at "w")
  | ((with_reducible apply as_val); walk_at "w")
  | ((with_reducible apply as_ref); (focus (walk_at "s")); walk_at "w")
  | ((with_reducible apply gBi1); walk_at "gBi1")
  | ((with_reducible apply b_n); (focus (walk_at "s")); walk_at "w")
  | ((with_reducible apply b_t); walk_at "w")
  | ((with_reducible apply bs_cons); walk_at "w")
  | ((with_reducible apply bs_nil); walk_at "w")
  | ((with_reducible apply rs_cons); walk_at "w")
  | ((with_reducible apply rs_nil); walk_at "w")
  | ((with_reducible apply Rt_go); (focus (with_reducible assumption)); (focus (walk_at "ev")); walk_at "w")
  | ((with_reducible apply wl_succ); walk_at "w")
  | ((with_reducible apply it_e); walk_at "w")
  | ((with_reducible apply it_rng1); walk_at "w")
  | ((with_reducible apply it_rng2); walk_at "w")
  | ((with_reducible apply it_zip); walk_at "w")
  | ((with_reducible apply zip_l); walk_at "w")
  | ((with_reducible apply zip_t); walk_at "w")
  | ((with_reducible apply it_enum); walk_at "w")
  | ((with_reducible apply enu_l); walk_at "w")
  | ((with_reducible apply to_som); walk_at "w")
  | ((with_reducible apply to_non); walk_at "w")
  | ((with_reducible apply eo_som); walk_at "w")
  | ((with_reducible apply eo_non); walk_at "w")
  | ((with_reducible apply wf_cons); (focus (walk_at "s")); walk_at "w")
  | ((with_reducible apply wf_nil); (focus (walk_at "s")); walk_at "w")
  | ((with_reducible apply wc_cons); (focus (walk_at "s")); walk_at "w")
  | ((with_reducible apply wc_nil); (focus (walk_at "s")); walk_at "w")
  | ((with_reducible apply r_lstS); (focus (exact rfl)); walk_at "w")
  | ((with_reducible apply r_lstN); (focus (exact rfl)); walk_at "w")
  | ((with_reducible apply o_isNN); walk_at "w")
  | ((with_reducible apply o_isN); (focus (exact rfl)); walk_at "w")
  | ((with_reducible apply o_isB); walk_at "w")
  | ((with_reducible apply o_max2); walk_at "w")
  | ((with_reducible apply o_min2); walk_at "w")
  | ((with_reducible apply o_slL); walk_at "w")
  | ((with_reducible apply o_slT); walk_at "w")
  | ((with_reducible apply o_revL); walk_at "w")
  | ((with_reducible apply set_go); (focus (exact rfl)); (focus (decide)); (focus (exact rfl)); walk_at "w")
  | ((with_reducible apply app_go); (focus (exact rfl)); (focus (decide)); (focus (walk_at "s")); walk_at "w")
  | skip)
local macro_rules | `(tactic| walk_at "f") => `(tactic| (conv => whnf); first
  | exact True.intro
  | ((refine And.intro True.intro ?_); walk_at "f"))
local macro_rules | `(tactic| walk_at "c") => `(tactic| (apply enterR); (focus (exact rfl)); (focus (walk_at "f")); (focus (walk_at "ev")); (focus ((intro R hR); walk_at "w")))
local macro_rules | `(tactic| walk_at "o") => `(tactic| (first | with_reducible apply wc_openI | with_reducible apply wc_openV | with_reducible apply wf_openI | with_reducible apply wf_openV); (focus (walk_at "ev")); walk_at "w")
local macro_rules | `(tactic| walk_at "p") => `(tactic| (first | with_reducible apply wc_keepI | with_reducible apply wc_keepV | with_reducible apply wf_keepI | with_reducible apply wf_keepV); (focus (walk_at "ev")))
local macro_rules | `(tactic| walk_at "k") => `(tactic| fail "no spec")
local macro_rules | `(tactic| walk_at "lx") => `(tactic| first
  | exact lv_nil rfl
  | ((apply lv_cons); (focus (exact rfl)); (focus (conv => lhs; whnf)); walk_at "lx"))
local macro_rules | `(tactic| walk_at "oo") => `(tactic| (first | with_reducible apply wc_openLI | with_reducible apply wc_openLV | with_reducible apply wf_openLI | with_reducible apply wf_openLV); (focus (walk_at "ev")); (focus (walk_at "lx")); walk_at "w")
local macro_rules | `(tactic| walk_at "uO") => `(tactic| first
  | ((with_reducible apply r_oV); (focus (walk_at "s")); walk_at "u")
  | ((with_reducible apply r_oE); (focus (exact rfl)); walk_at "u"))
local macro_rules | `(tactic| walk_at "uP") => `(tactic| first
  | ((with_reducible apply r_lend); (focus (exact rfl)); (focus (walk_at "ev")); walk_at "u")
  | ((with_reducible apply r_oP); (focus (exact rfl)); walk_at "u"))
local macro_rules | `(tactic| walk_at "uE") => `(tactic| first
  | ((with_reducible apply r_bin); walk_at "u")
  | ((with_reducible apply r_ix); walk_at "u")
  | ((with_reducible apply r_c); walk_at "u")
  | ((with_reducible apply r_vv); (focus (exact rfl)); walk_at "u")
  | ((with_reducible apply r_call); (focus (walk_at "bl")); walk_at "u")
  | ((with_reducible apply r_tup); walk_at "u")
  | ((with_reducible apply r_lst); walk_at "u")
  | ((with_reducible apply r_g); walk_at "u")
  | ((with_reducible apply r_neg); walk_at "u")
  | ((with_reducible apply r_cmp); walk_at "u")
  | ((with_reducible apply r_chain); walk_at "u")
  | ((with_reducible apply r_chain3); walk_at "u")
  | ((with_reducible apply r_isc); walk_at "u")
  | ((with_reducible apply r_and); walk_at "u")
  | ((with_reducible apply r_or); walk_at "u")
  | ((with_reducible apply r_not); walk_at "u")
  | ((with_reducible apply r_ite); walk_at "u")
  | ((with_reducible apply r_sl); walk_at "u")
  | ((with_reducible apply r_rev); walk_at "u")
  | ((with_reducible apply r_isi); walk_at "u")
  | ((with_reducible apply r_bi2); walk_at "u")
  | ((with_reducible apply r_lc); walk_at "u")
  | ((with_reducible apply r_list); walk_at "u")
  | ((with_reducible apply r_vo); (focus (exact rfl)); walk_at "u")
  | ((with_reducible apply r_vs); (focus (exact rfl)); walk_at "u")
  | ((with_reducible apply r_bi1); (focus (decide)); walk_at "u"))
local macro_rules | `(tactic| walk_at "uT") => `(tactic| first
  | ((with_reducible apply t_cmp); walk_at "u")
  | ((with_reducible apply t_and); walk_at "u")
  | ((with_reducible apply t_or); walk_at "u")
  | ((with_reducible apply t_not); walk_at "u")
  | ((with_reducible apply t_chain); walk_at "u")
  | ((with_reducible apply t_chain3); walk_at "u")
  | ((with_reducible apply t_isc); walk_at "u")
  | ((with_reducible apply t_isi); walk_at "u")
  | ((with_reducible apply t_bi1); walk_at "u")
  | ((with_reducible apply t_ix); walk_at "u")
  | ((with_reducible apply t_call); walk_at "u")
  | ((with_reducible apply t_bin); walk_at "u")
  | ((with_reducible apply t_v); (focus (exact rfl)); walk_at "u"))
local macro_rules | `(tactic| walk_at "uS") => `(tactic| first
  | ((with_reducible apply s_asg); walk_at "u")
  | ((with_reducible apply s_asgT); walk_at "u")
  | ((with_reducible apply s_par); walk_at "u")
  | ((with_reducible apply s_ex); walk_at "u")
  | ((with_reducible apply s_ite); walk_at "u")
  | ((with_reducible apply s_ret); (focus (exact rfl)); walk_at "u")
  | ((with_reducible apply s_ret0); walk_at "u")
  | ((with_reducible apply s_whl); walk_at "u")
  | ((with_reducible apply s_for); walk_at "u")
  | ((with_reducible apply s_pass); walk_at "u")
  | ((with_reducible apply s_brk); walk_at "u")
  | ((with_reducible apply s_cnt); walk_at "u")
  | ((with_reducible apply s_retV); (focus (exact rfl)); walk_at "u")
  | ((with_reducible apply s_retO); (focus (exact rfl)); walk_at "u")
  | ((with_reducible apply s_set); (focus (exact rfl)); walk_at "u")
  | ((with_reducible apply s_app); (focus (exact rfl)); walk_at "u"))
local macro_rules | `(tactic| walk_at "uSs") => `(tactic| first
  | ((with_reducible apply ss_cons); walk_at "u")
  | ((with_reducible apply ss_nil); walk_at "u"))
local macro_rules | `(tactic| walk_at "uBin") => `(tactic| first
  | ((with_reducible apply o_addI); walk_at "u")
  | ((with_reducible apply o_mulI); (focus (walk_at "s")); walk_at "u")
  | ((with_reducible apply o_subI); walk_at "u")
  | ((with_reducible apply o_fdivI); (focus (walk_at "s")); walk_at "u")
  | ((with_reducible apply o_modI); (focus (walk_at "s")); walk_at "u")
  | ((with_reducible apply o_powI); (focus (walk_at "s")); walk_at "u")
  | ((with_reducible apply o_addL); (focus (walk_at "s")); walk_at "u")
  | ((with_reducible apply o_addT); (focus (walk_at "s")); walk_at "u")
  | ((with_reducible apply o_mulT); (focus (exact ⟨(fun h => by cases h), by decide, by decide, by decide⟩)); walk_at "u")
  | ((with_reducible apply o_mulL); (focus (first | exact ⟨by decide, by decide, by decide⟩ | exact ⟨by omega, by omega, by simp; omega⟩)); walk_at "u"))
local macro_rules | `(tactic| walk_at "uCmp") => `(tactic| first
  | ((with_reducible apply o_eqI); walk_at "u")
  | ((with_reducible apply o_neI); walk_at "u")
  | ((with_reducible apply o_ltI); walk_at "u")
  | ((with_reducible apply o_leI); walk_at "u")
  | ((with_reducible apply o_gtI); walk_at "u")
  | ((with_reducible apply o_geI); walk_at "u")
  | ((with_reducible apply o_eq); (focus (walk_at "s")); walk_at "u")
  | ((with_reducible apply o_ne); (focus (walk_at "s")); walk_at "u")
  | ((with_reducible apply o_inT); (focus (walk_at "s")); walk_at "u")
  | ((with_reducible apply o_ninT); (focus (walk_at "s")); walk_at "u")
  | ((with_reducible apply o_inL); (focus (walk_at "s")); walk_at "u")
  | ((with_reducible apply o_ninL); (focus (walk_at "s")); walk_at "u"))
local macro_rules | `(tactic| walk_at "uTru") => `(tactic| first
  | ((with_reducible apply o_truB); walk_at "u")
  | ((with_reducible apply o_truI); walk_at "u")
  | ((with_reducible apply o_truL); walk_at "u")
  | ((with_reducible apply o_truT); walk_at "u")
  | ((with_reducible apply o_truN); walk_at "u"))
local macro_rules | `(tactic| walk_at "uBi1") => `(tactic| first
  | ((with_reducible apply o_lenL); walk_at "u")
  | ((with_reducible apply o_lenT); walk_at "u")
  | ((with_reducible apply o_abs); walk_at "u")
  | ((with_reducible apply o_int); walk_at "u")
  | ((with_reducible apply o_listL); walk_at "u")
  | ((with_reducible apply o_listT); walk_at "u")
  | ((with_reducible apply o_tupL); walk_at "u")
  | ((with_reducible apply o_tupT); walk_at "u"))
local macro_rules | `(tactic| walk_at "uStp") => `(tactic| first
  | ((with_reducible apply dx_list); (focus (exact rfl)); walk_at "u")
  | ((with_reducible apply dx_tup); (focus (exact rfl)); walk_at "u")
  | walk_at "ku")
local macro_rules | `(tactic| walk_at "uBr") => `(tactic| first
  | ((with_reducible refine brT ?_ ?_); (focus (exact rfl)); walk_at "u")
  | ((with_reducible refine brF ?_ ?_); (focus (exact rfl)); walk_at "u"))
local macro_rules | `(tactic| walk_at "u") => `(tactic| first
  | ((with_reducible apply gO); walk_at "uO")
  | ((with_reducible apply gP); walk_at "uP")
  | ((with_reducible apply gE); walk_at "uE")
  | ((with_reducible apply r_at); (focus (walk_at "ev")); walk_at "u")
  | ((with_reducible apply r_oD); walk_at "u")
  | ((with_reducible refine And.intro ?_ ?_); (focus (walk_at "s")); walk_at "u")
  | ((with_reducible apply gSs); walk_at "uSs")
  | ((with_reducible apply gS); walk_at "uS")
  | ((with_reducible apply gT); walk_at "uT")
  | ((with_reducible apply gBin); walk_at "uBin")
  | ((with_reducible apply gCmp); walk_at "uCmp")
  | ((with_reducible apply gTru); walk_at "uTru")
  | ((with_reducible apply gBr); walk_at "uBr")
  | ((with_reducible apply gStp); walk_at "uStp")
  | ((with_reducible apply es_cons); walk_at "u")
  | ((with_reducible apply es_nil); walk_at "u")
  | ((with_reducible apply as_nil); walk_at "u")
  | ((with_reducible apply as_val); walk_at "u")
  | ((with_reducible apply as_ref); (focus (walk_at "s")); walk_at "u")
  | ((with_reducible apply gBi1); walk_at "uBi1")
  | ((with_reducible apply b_n); (focus (walk_at "s")); walk_at "u")
  | ((with_reducible apply b_t); walk_at "u")
  | ((with_reducible apply bs_cons); walk_at "u")
  | ((with_reducible apply bs_nil); walk_at "u")
  | ((with_reducible apply rs_cons); walk_at "u")
  | ((with_reducible apply rs_nil); walk_at "u")
  | ((with_reducible apply Rt_go); (focus (with_reducible assumption)); (focus (walk_at "ev")); walk_at "u")
  | ((with_reducible apply wl_succ); walk_at "u")
  | ((with_reducible apply it_e); walk_at "u")
  | ((with_reducible apply it_rng1); walk_at "u")
  | ((with_reducible apply it_rng2); walk_at "u")
  | ((with_reducible apply it_zip); walk_at "u")
  | ((with_reducible apply zip_l); walk_at "u")
  | ((with_reducible apply zip_t); walk_at "u")
  | ((with_reducible apply it_enum); walk_at "u")
  | ((with_reducible apply enu_l); walk_at "u")
  | ((with_reducible apply to_som); walk_at "u")
  | ((with_reducible apply to_non); walk_at "u")
  | ((with_reducible apply eo_som); walk_at "u")
  | ((with_reducible apply eo_non); walk_at "u")
  | ((with_reducible apply wf_cons); (focus (walk_at "s")); walk_at "u")
  | ((with_reducible apply wf_nil); (focus (walk_at "s")); walk_at "u")
  | ((with_reducible apply wc_cons); (focus (walk_at "s")); walk_at "u")
  | ((with_reducible apply wc_nil); (focus (walk_at "s")); walk_at "u")
  | ((with_reducible apply r_lstS); (focus (exact rfl)); walk_at "u")
  | ((with_reducible apply r_lstN); (focus (exact rfl)); walk_at "u")
  | ((with_reducible apply o_isNN); walk_at "u")
  | ((with_reducible apply o_isN); (focus (exact rfl)); walk_at "u")
  | ((with_reducible apply o_isB); walk_at "u")
  | ((with_reducible apply o_max2); walk_at "u")
  | ((with_reducible apply o_min2); walk_at "u")
  | ((with_reducible apply o_slL); walk_at "u")
  | ((with_reducible apply o_slT); walk_at "u")
  | ((with_reducible apply o_revL); walk_at "u")
  | ((with_reducible apply set_go); (focus (exact rfl)); (focus (decide)); (focus (exact rfl)); walk_at "u")
  | ((with_reducible apply app_go); (focus (exact rfl)); (focus (decide)); (focus (walk_at "s")); walk_at "u")
  | skip)
local macro_rules | `(tactic| walk_at "ku") => `(tactic| fail "no spec")
local macro_rules | `(tactic| walk_at "a") => `(tactic| (with_reducible apply ss_go); (with_reducible apply ss_cons); (with_reducible apply s_asg))
local macro_rules | `(tactic| walk_at "cu") => `(tactic| (apply enterR); (focus (exact rfl)); (focus (walk_at "f")); (focus (walk_at "ev")); (focus ((intro R hR); walk_at "u")))
local macro_rules | `(tactic| walk_at "s1") => `(tactic| (with_reducible apply ss_go); (with_reducible apply ss_cons))
abbrev fa (n : Int) : Nf.L := Nf.fac n.toNat
theorem phi_bd {x : Nat × Nat} (h : x.1 ^ x.2 ≤ 10 ^ 10 ∧ 1 ≤ x.1) : Bd 41 (Nf.gPhi x) := (pow_bd h.1 h.2 (Nat.le_refl _)).sub1 (pow_bd h.1 h.2 (Nat.sub_le _ _))
theorem id_bd {x : Nat × Nat} (h : x.1 ^ x.2 ≤ 10 ^ 10 ∧ 1 ≤ x.1) : Bd 41 (Nf.gId x) := (pow_bd h.1 h.2 (Nat.le_refl _)).mono (by decide)
theorem rt_bd {x : Nat × Nat} (h : x.1 ^ x.2 ≤ 10 ^ 10 ∧ 1 ≤ x.1) : Bd 41 (Nf.gRt x) := (pow_bd h.1 h.2 (Nat.div_le_self _ _)).mono (by decide)
theorem cnt_bd {x : Nat × Nat} (h : x.2 ≤ 33) : Bd 41 (Nf.gCnt x) := .of (by unfold Nf.gCnt; omega)
theorem rs_bd {x : Nat × Nat} (h : x.1 ≤ 10 ^ 10) : Bd 41 (Nf.gRs x) := .of (by unfold Nf.gRs; split <;> omega)
/-- a part of the factors -/
structure Pt (n : Int) (done : Nf.L) : Prop where
  len : done.length ≤ 33
  al : ∀ x ∈ done, (x.1 ^ x.2 ≤ 10 ^ 10 ∧ 1 ≤ x.1) ∧ x.2 ≤ 33 ∧ x.1 ≤ 10 ^ 10
theorem Pt.of {n : Int} (h : Nm n) {d r : Nf.L} (e : d ++ r = fa n) : Pt n d := by
  have hlen := h.fc.len h.le
  have e : d ++ r = Nf.fac n.toNat := e
  refine ⟨?_, fun x hx => ?_⟩
  · have := congrArg List.length e
    rw [List.length_append] at this
    omega
  · have := pows h (x := x) (by rw [← e]; exact List.mem_append_left _ hx)
    exact ⟨⟨this.1, by omega⟩, by omega, by omega⟩
theorem Pt.of2 {n : Int} (h : Nm n) {d r : Nf.L} (e : d ++ r = fa n) : Pt n r := by
  have hlen := h.fc.len h.le
  have e : d ++ r = Nf.fac n.toNat := e
  refine ⟨?_, fun x hx => ?_⟩
  · have := congrArg List.length e
    rw [List.length_append] at this
    omega
  · have := pows h (x := x) (by rw [← e]; exact List.mem_append_right _ hx)
    exact ⟨⟨this.1, by omega⟩, by omega, by omega⟩
theorem Pt.bd {n : Int} {d : Nf.L} (p : Pt n d) {g : Nat × Nat → Int} (hg : ∀ x : Nat × Nat, (x.1 ^ x.2 ≤ 10 ^ 10 ∧ 1 ≤ x.1) ∧ x.2 ≤ 33 ∧ x.1 ≤ 10 ^ 10 → Bd 41 (g x)) : Bd 1400 (Nf.prodI g d) := by
  refine (prod_bd d fun x hx => hg x (p.al x hx)).mono ?_
  have := p.len
  omega
theorem sp_totient_in {k : Nat} (hk : 2 ≤ k) {n : Int} (h : Nm n) {Q : Sl → List Sl → Prop} (hQ : Q (.val (.int (Nf.prodI Nf.gPhi (fa n)))) [.no]) : stp (wCall fns k 13 [.val (.int n)] Q) := by
  obtain ⟨k, rfl⟩ := Nat.exists_eq_add_of_le' hk
  walk_at "c"
  refine sp_factors_in (by omega) h ?_
  walk_at "w"
  refine dFor_run (fun l e => ∃ (done rest : Nf.L) (z : Int) (x2 x3 : Sl), e = [.val (.int n), .val (.int z), x2, x3] ∧ freeSl (some x2) ∧ freeSl (some x3) ∧ z = Nf.prodI Nf.gPhi done * Nf.prodI Nf.gId rest ∧ l = rest.map Nf.dP ∧ done ++ rest = fa n) ?_ ?_ ⟨[], fa n, n, .no, .no, rfl, trivial, trivial, ?_, rfl, rfl⟩
  · rintro e ⟨done, rest, z, x2, x3, rfl, f2, f3, hz, hl, hall⟩
    have hr : rest = [] := List.map_eq_nil_iff.mp hl.symm
    subst hr
    rw [List.append_nil] at hall
    subst hall
    have hz : z = Nf.prodI Nf.gPhi (fa n) := by rw [hz]; exact Int.mul_one _
    subst hz
    walk_at "w"
    exact hQ
  · rintro x xs e ⟨done, rest, z, x2, x3, rfl, f2, f3, hz, hl, hall⟩ next
    cases rest with
    | nil => cases hl
    | cons y rest =>
      obtain ⟨p, ee⟩ := y
      injection hl with hx hxs
      have hy := pows h (x := (p, ee)) (by rw [← show done ++ (p, ee) :: rest = Nf.fac n.toNat from hall]; simp)
      simp only at hy
      obtain ⟨P, hP⟩ : ∃ P : Int, P = p := ⟨_, rfl⟩
      obtain ⟨E, hE⟩ : ∃ E : Int, E = ee := ⟨_, rfl⟩
      rw [hx, dP_eq hP hE]
      have st := Nf.phi_step (a := Nf.prodI Nf.gPhi done) (r := Nf.prodI Nf.gId rest) (p := p) (e := ee) (by omega) (by omega)
      have ez : z = Nf.prodI Nf.gPhi done * ((p : Int) ^ ee * Nf.prodI Nf.gId rest) := hz
      rw [← ez, ← hP] at st
      have bz : Bd 2800 z := by rw [hz]; exact (Pt.of h hall).bd (fun x hx => phi_bd hx.1) |>.mul ((Pt.of2 h hall).bd fun x hx => id_bd hx.1)
      have bP : Bd 64 (P - 1) := .of (by omega)
      have i1 : IntMulOk (z.fdiv P) (P - 1) := mulOk (bz.fdiv) bP (by omega)
      have dv := divB (a := P) (by omega) (by omega)
      walk_at "w"
      rw [st]
      exact next _ ⟨done ++ [(p, ee)], rest, _, _, _, rfl, trivial, trivial, by rw [Nf.prodI_snoc], hxs, by rw [List.append_assoc]; exact hall⟩
  · have e1 := Nf.pf_int (fa n)
    rw [h.fc.pf] at e1
    show n = 1 * Nf.prodI Nf.gId (fa n)
    rw [← e1]
    have := h.lo
    omega
theorem sp_split_in {k : Nat} (hk : 2 ≤ k) {n : Int} (h : Nm n) {Q : Sl → List Sl → Prop} (hQ : Q (.val (.tuple [.int (Nf.prodI Nf.gRt (fa n)), .int (Nf.prodI Nf.gRs (fa n))])) [.no]) : stp (wCall fns k 15 [.val (.int n)] Q) := by
  obtain ⟨k, rfl⟩ := Nat.exists_eq_add_of_le' hk
  walk_at "c"
  refine sp_factors_in (by omega) h ?_
  walk_at "w"
  refine dFor_run (fun l e => ∃ (done rest : Nf.L) (z w : Int) (x2 x3 x4 : Sl), e = [.val (.int n), .val (.int z), .val (.int w), x2, x3, x4] ∧ freeSl (some x2) ∧ freeSl (some x3) ∧ freeSl (some x4) ∧ z = Nf.prodI Nf.gRt done ∧ w = Nf.prodI Nf.gRs done ∧ l = rest.map Nf.dP ∧ done ++ rest = fa n) ?_ ?_ ⟨[], fa n, 1, 1, .no, .no, .no, rfl, trivial, trivial, trivial, rfl, rfl, rfl, rfl⟩
  · rintro e ⟨done, rest, z, w, x2, x3, x4, rfl, f2, f3, f4, hz, hw, hl, hall⟩
    have hr : rest = [] := List.map_eq_nil_iff.mp hl.symm
    subst hr
    rw [List.append_nil] at hall
    subst hall
    subst hz hw
    walk_at "w"
    exact hQ
  · rintro x xs e ⟨done, rest, z, w, x2, x3, x4, rfl, f2, f3, f4, hz, hw, hl, hall⟩ next
    cases rest with
    | nil => cases hl
    | cons y rest =>
      obtain ⟨p, ee⟩ := y
      injection hl with hx hxs
      have hy := pows h (x := (p, ee)) (by rw [← show done ++ (p, ee) :: rest = Nf.fac n.toNat from hall]; simp)
      simp only at hy
      obtain ⟨P, hP⟩ : ∃ P : Int, P = p := ⟨_, rfl⟩
      obtain ⟨E, hE⟩ : ∃ E : Int, E = ee := ⟨_, rfl⟩
      rw [hx, dP_eq hP hE]
      have pt := Pt.of h hall
      have bz : Bd 1400 z := by rw [hz]; exact pt.bd fun x hx => rt_bd hx.1
      have bw : Bd 1400 w := by rw [hw]; exact pt.bd fun x hx => rs_bd hx.2.2
      have bP : Bd 64 P := .of (by omega)
      have i1 : IntMulOk w P := mulOk bw bP (by omega)
      have eE : E.fdiv 2 = ((ee / 2 : Nat) : Int) := by rw [hE]; exact natDiv (t := 2)
      have eM : E.fmod 2 = ((ee % 2 : Nat) : Int) := by rw [hE]; exact natMod (t := 2)
      have hd : 0 ≤ E.fdiv 2 ∧ E.fdiv 2 ≤ 40 := by omega
      walk_at "w"
      refine dFor_run (fun l e => ∃ (j : Nat) (T : Int) (x4 : Sl), e = [.val (.int n), .val (.int T), .val (.int w), .val (.int P), .val (.int E), x4] ∧ freeSl (some x4) ∧ T = z * (p : Int) ^ j ∧ l.length + j = ee / 2) ?_ ?_ ⟨0, z, _, rfl, f4, by rw [Int.pow_zero, Int.mul_one], ?_⟩
      · rintro e ⟨j, T, x4, rfl, f4, hT, hj⟩
        have hj : j = ee / 2 := by simpa using hj
        subst hj
        have e1 : T = Nf.prodI Nf.gRt (done ++ [(p, ee)]) := by rw [Nf.prodI_snoc, hT, hz]; rfl
        walk_at "w"
        refine brI (fun h2 => ?_) (fun h2 => ?_)
        · rw [eM, beq_iff_eq] at h2
          walk_at "w"
          refine next _ ⟨done ++ [(p, ee)], rest, _, _, _, _, _, rfl, trivial, trivial, f4, e1, ?_, hxs, by rw [List.append_assoc]; exact hall⟩
          rw [Nf.prodI_snoc, hw]
          unfold Nf.gRs
          rw [if_pos (show ee % 2 = 1 by omega), hP]
        · rw [eM, beq_eq_false_iff_ne] at h2
          walk_at "w"
          refine next _ ⟨done ++ [(p, ee)], rest, _, _, _, _, _, rfl, trivial, trivial, f4, e1, ?_, hxs, by rw [List.append_assoc]; exact hall⟩
          rw [Nf.prodI_snoc, hw]
          unfold Nf.gRs
          rw [if_neg (show ¬ ee % 2 = 1 by omega), Int.mul_one]
      · rintro x xs e ⟨j, T, x4, rfl, f4, hT, hj⟩ next2
        rw [List.length_cons] at hj
        have bT : Bd 1500 T := by rw [hT]; exact (bz.mul (pow_bd hy.1 (by omega) (by omega))).mono (by decide)
        have i2 : IntMulOk T P := mulOk bT bP (by omega)
        walk_at "w"
        exact next2 _ ⟨j + 1, _, _, rfl, trivial, by rw [hT, hP, Int.pow_succ, Int.mul_assoc], by omega⟩
      · show (rngD 0 (E.fdiv 2).toNat).length + 0 = ee / 2
        unfold rngD
        simp
        omega
theorem sp_count_divisors {k : Nat} (hk : 5 ≤ k) {n : Int} (h : Nm n) {Q : Sl → List Sl → Prop} (hQ : Q (.val (.int (Nf.prodI Nf.gCnt (fa n)))) [.no]) : stp (wCall fns k 11 [.val (.int n)] Q) := by
  obtain ⟨k, rfl⟩ := Nat.exists_eq_add_of_le' hk
  walk_at "c"
  refine sp_need_number (by omega) h ?_
  walk_at "w"
  refine sp_factors_in (by omega) h ?_
  walk_at "w"
  refine dFor_run (fun l e => ∃ (done rest : Nf.L) (z : Int) (x2 x3 : Sl), e = [.val (.int n), .val (.int z), x2, x3] ∧ freeSl (some x2) ∧ freeSl (some x3) ∧ z = Nf.prodI Nf.gCnt done ∧ l = rest.map Nf.dP ∧ done ++ rest = fa n) ?_ ?_ ⟨[], fa n, 1, .no, .no, rfl, trivial, trivial, rfl, rfl, rfl⟩
  · rintro e ⟨done, rest, z, x2, x3, rfl, f2, f3, hz, hl, hall⟩
    have hr : rest = [] := List.map_eq_nil_iff.mp hl.symm
    subst hr
    rw [List.append_nil] at hall
    subst hall
    subst hz
    walk_at "w"
    exact hQ
  · rintro x xs e ⟨done, rest, z, x2, x3, rfl, f2, f3, hz, hl, hall⟩ next
    cases rest with
    | nil => cases hl
    | cons y rest =>
      obtain ⟨p, ee⟩ := y
      injection hl with hx hxs
      have hy := pows h (x := (p, ee)) (by rw [← show done ++ (p, ee) :: rest = Nf.fac n.toNat from hall]; simp)
      simp only at hy
      obtain ⟨P, hP⟩ : ∃ P : Int, P = p := ⟨_, rfl⟩
      obtain ⟨E, hE⟩ : ∃ E : Int, E = ee := ⟨_, rfl⟩
      rw [hx, dP_eq hP hE]
      have bz : Bd 1400 z := by rw [hz]; exact (Pt.of h hall).bd fun x hx => cnt_bd hx.2.1
      have bE : Bd 64 (E + 1) := .of (by omega)
      have i1 : IntMulOk z (E + 1) := mulOk bz bE (by omega)
      walk_at "w"
      exact next _ ⟨done ++ [(p, ee)], rest, _, _, _, rfl, trivial, trivial, by rw [Nf.prodI_snoc, hz, hE]; rfl, hxs, by rw [List.append_assoc]; exact hall⟩
theorem sp_factors_of {k : Nat} (hk : 5 ≤ k) {n : Int} (h : Nm n) {Q : Sl → List Sl → Prop} (hQ : Q (.val (.tuple ((fa n).map Nf.dP))) [.no]) : stp (wCall fns k 22 [.val (.int n)] Q) := by
  obtain ⟨k, rfl⟩ := Nat.exists_eq_add_of_le' hk
  walk_at "c"
  refine sp_need_number (by omega) h ?_
  walk_at "w"
  refine sp_factors_in (by omega) h ?_
  walk_at "w"
  exact hQ
theorem sp_divisors_of {k : Nat} (hk : 5 ≤ k) {n : Int} (h : Nm n) {Q : Sl → List Sl → Prop} (hQ : Q (.val (.tuple ((Nf.isort (Nf.dvs (fa n))).map PyData.int))) [.no]) : stp (wCall fns k 10 [.val (.int n)] Q) := by
  obtain ⟨k, rfl⟩ := Nat.exists_eq_add_of_le' hk
  walk_at "c"
  refine sp_need_number (by omega) h ?_
  walk_at "w"
  refine sp_divisors_in (by omega) h ?_
  walk_at "w"
  exact hQ
theorem sp_sum_of_divisors {k : Nat} (hk : 5 ≤ k) {n : Int} (h : Nm n) {Q : Sl → List Sl → Prop} (hQ : Q (.val (.int (Nf.prodI Nf.gSig (fa n)))) [.no]) : stp (wCall fns k 12 [.val (.int n)] Q) := by
  obtain ⟨k, rfl⟩ := Nat.exists_eq_add_of_le' hk
  walk_at "c"
  refine sp_need_number (by omega) h ?_
  walk_at "w"
  refine sp_divisors_in (by omega) h ?_
  walk_at "w"
  refine o_sum rfl ?_
  rw [Nf.perm_sum (Nf.isort_perm _), Nf.dvs_sum]
  walk_at "w"
  exact hQ
theorem sp_totient_of {k : Nat} (hk : 5 ≤ k) {n : Int} (h : Nm n) {Q : Sl → List Sl → Prop} (hQ : Q (.val (.int (Nf.prodI Nf.gPhi (fa n)))) [.no]) : stp (wCall fns k 14 [.val (.int n)] Q) := by
  obtain ⟨k, rfl⟩ := Nat.exists_eq_add_of_le' hk
  walk_at "c"
  refine sp_need_number (by omega) h ?_
  walk_at "w"
  refine sp_totient_in (by omega) h ?_
  walk_at "w"
  exact hQ
theorem sp_split_square {k : Nat} (hk : 5 ≤ k) {n : Int} (h : Nm n) {Q : Sl → List Sl → Prop} (hQ : Q (.val (.tuple [.int (Nf.prodI Nf.gRt (fa n)), .int (Nf.prodI Nf.gRs (fa n))])) [.no]) : stp (wCall fns k 16 [.val (.int n)] Q) := by
  obtain ⟨k, rfl⟩ := Nat.exists_eq_add_of_le' hk
  walk_at "c"
  refine sp_need_number (by omega) h ?_
  walk_at "w"
  refine sp_split_in (by omega) h ?_
  walk_at "w"
  exact hQ
theorem any_dPs {l : Nf.L} : Any 2 (.list (l.map Nf.dP)) := Any.list fun x hx => by
  obtain ⟨g, -, rfl⟩ := List.mem_map.mp hx
  exact ⟨rfl, of_decide_eq_true rfl⟩
theorem any_dPt {l : Nf.L} : Any 2 (.tuple (l.map Nf.dP)) := Any.tup fun x hx => by
  obtain ⟨g, -, rfl⟩ := List.mem_map.mp hx
  exact ⟨rfl, of_decide_eq_true rfl⟩
theorem isP_eqv' {n : Int} (h : Nm n) : PyData.eqv (.list ((fa n).map Nf.dP)) (.list [.tuple [.int n, .int 1]]) = isP n.toNat := by
  rw [← isP_eqv]
  have : ((n.toNat : Nat) : Int) = n := by have := h.lo; omega
  rw [this]
theorem sp_is_prime_number {k : Nat} (hk : 5 ≤ k) {n : Int} (h : Nm n) {Q : Sl → List Sl → Prop} (hQ : Q (.val (.bool (isP n.toNat))) [.no]) : stp (wCall fns k 8 [.val (.int n)] Q) := by
  obtain ⟨k, rfl⟩ := Nat.exists_eq_add_of_le' hk
  have lo := h.lo
  walk_at "c"
  refine sp_need_number (by omega) h ?_
  walk_at "w"
  walk_at "c"
  refine brI (fun h2 => ?_) (fun h2 => ?_)
  · walk_at "w"
    refine sp_factors_in (by omega) h ?_
    walk_at "w"
    refine o_eq ⟨any_dPs.shaped (by decide), rfl⟩ ?_
    rw [isP_eqv' h]
    walk_at "w"
    exact hQ
  · have h3 := of_decide_eq_false h2
    have : n = 1 := by omega
    subst this
    have e : isP (1 : Int).toNat = false := by decide +kernel
    rw [e] at hQ
    walk_at "w"
    exact hQ
def bigD : D → D
  | .tuple [_, .int e] => .bool (decide (1 < e))
  | _ => .none
theorem bigs (l : Nf.L) : (l.map Nf.dP).map bigD = (l.map fun x => decide (x.2 > 1)).map PyData.bool := by
  rw [List.map_map, List.map_map]
  apply List.map_congr_left
  intro x _
  show PyData.bool (decide (1 < ((x.2 : Nat) : Int))) = PyData.bool (decide (x.2 > 1))
  congr 1
  rw [decide_eq_decide]
  omega
theorem sp_moebius_of {k : Nat} (hk : 5 ≤ k) {n : Int} (h : Nm n) {Q : Sl → List Sl → Prop} (hQ : Q (.val (.int (Nf.prodI Nf.gMu (fa n)))) [.no]) : stp (wCall fns k 20 [.val (.int n)] Q) := by
  obtain ⟨k, rfl⟩ := Nat.exists_eq_add_of_le' hk
  have hlen := h.fc.len h.le
  rw [Nf.mu_all] at hQ
  walk_at "c"
  refine sp_need_number (by omega) h ?_
  walk_at "w"
  refine sp_factors_in (by omega) h ?_
  walk_at "w"
  walk_at "p"
  refine dComp_map bigD (fun x => ∃ y ∈ fa n, x = Nf.dP y) (fun x hx => ?_) (by rw [List.length_map]; exact line6 (by omega)) ?_ ?_
  · obtain ⟨f, hf, rfl⟩ := List.mem_map.mp hx
    exact ⟨f, hf, rfl⟩
  · rintro _ rest acc ⟨⟨p, ee⟩, hy, rfl⟩ hacc next
    walk_at "w"
    exact next
  · have e := bigs (fa n)
    rw [e]
    walk_at "w"
    refine o_any rfl ?_
    have e2 : ((fa n).map fun x => decide (x.2 > 1)).any id = (fa n).any fun x => decide (x.2 > 1) := by rw [List.any_map]; rfl
    rw [e2]
    refine brI (fun h2 => ?_) (fun h2 => ?_)
    · rw [if_pos h2] at hQ
      walk_at "w"
      exact hQ
    · rw [if_neg (by rw [h2]; decide)] at hQ
      have eL : ((((fa n).map Nf.dP).length : Nat) : Int).fmod 2 = (((fa n).length % 2 : Nat) : Int) := by rw [List.length_map]; exact natMod (t := 2)
      walk_at "w"
      rw [eL]
      refine brI (fun h3 => ?_) (fun h3 => ?_)
      · rw [beq_iff_eq] at h3
        rw [if_pos (by omega)] at hQ
        walk_at "w"
        exact hQ
      · rw [beq_eq_false_iff_ne] at h3
        rw [if_neg (by omega)] at hQ
        walk_at "w"
        exact hQ
end K03

set_option Elab.async false
set_option linter.all false
set_option maxRecDepth 100000
set_option maxHeartbeats 0
set_option exponentiation.threshold 4000
namespace K03
open PySem PySem.Spec PyProof.Rows L2 DL
local macro_rules | `(tactic| walk_at "bd") => `(tactic| repeat' (first
  | with_reducible assumption
  | with_reducible apply Bd.add
  | with_reducible apply Bd.sub
  | with_reducible apply Bd.mul
  | with_reducible apply Bd.neg
  | with_reducible apply Bd.fdiv
  | ((with_reducible apply Bd.fmod); (focus (first | decide | omega)))
  | with_reducible apply Bd.abs
  | exact Bd.lit (by decide) (by decide)
  | exact Bd.lit (by omega) (by omega)
  | exact Bd.lit2 (by decide) (by decide)))
local macro_rules | `(tactic| walk_at "pl") => `(tactic| first
  | with_reducible exact plN
  | ((with_reducible refine plC ?_ ?_); (focus (first | exact (show plainSl _ from True.intro) | exact (show plainSl _ from by assumption))); walk_at "pl"))
local macro_rules | `(tactic| walk_at "fl") => `(tactic| first
  | with_reducible exact flN
  | ((with_reducible refine flC ?_ ?_); (focus (first | exact (show freeSl _ from True.intro) | exact (show freeSl _ from by assumption))); walk_at "fl"))
local macro_rules | `(tactic| walk_at "s") => `(tactic| first
  | exact (show hasSl _ _ from True.intro)
  | exact (show freeSl _ from True.intro)
  | exact (show stillW _ _ from True.intro)
  | exact (show stillW _ _ from rfl)
  | exact (show freeSl _ from by assumption)
  | walk_at "pl"
  | walk_at "fl"
  | ((with_reducible apply mulR); exact Bd.lit (by decide) (by decide))
  | ((with_reducible apply mulL); exact Bd.lit (by decide) (by decide))
  | ((with_reducible apply mulOk); (focus (walk_at "bd")); (focus (walk_at "bd")); (focus (decide)))
  | exact (show CPow _ _ from ⟨by decide, by decide, by decide⟩)
  | ((with_reducible apply divOk) <;> first | decide | assumption | omega)
  | with_reducible assumption
  | exact ⟨rfl, rfl⟩
  | exact Nat.le_of_ble_eq_true rfl
  | exact of_decide_eq_true rfl
  | rfl
  | decide
  | omega)
local macro_rules | `(tactic| walk_at "ev") => `(tactic| first
  | exact ev_nil rfl
  | ((apply ev_cons); (focus (exact rfl)); (focus (conv => lhs; whnf)); walk_at "ev"))
local macro_rules | `(tactic| walk_at "bl") => `(tactic| first
  | exact bl_nil rfl
  | ((apply bl_cons); (focus (exact rfl)); (focus (conv => lhs; whnf)); walk_at "bl"))
local macro_rules | `(tactic| walk_at "gO") => `(tactic| first
  | ((with_reducible apply r_oV); (focus (walk_at "s")); walk_at "w")
  | ((with_reducible apply r_oE); (focus (exact rfl)); walk_at "w"))
local macro_rules | `(tactic| walk_at "gP") => `(tactic| first
  | ((with_reducible apply r_lend); (focus (exact rfl)); (focus (walk_at "ev")); walk_at "w")
  | ((with_reducible apply r_oP); (focus (exact rfl)); walk_at "w"))
local macro_rules | `(tactic| walk_at "gE") => `(tactic| first
  | ((with_reducible apply r_bin); walk_at "w")
  | ((with_reducible apply r_ix); walk_at "w")
  | ((with_reducible apply r_c); walk_at "w")
  | ((with_reducible apply r_vv); (focus (exact rfl)); walk_at "w")
  | ((with_reducible apply r_call); (focus (walk_at "bl")); walk_at "w")
  | ((with_reducible apply r_tup); walk_at "w")
  | ((with_reducible apply r_lst); walk_at "w")
  | ((with_reducible apply r_g); walk_at "w")
  | ((with_reducible apply r_neg); walk_at "w")
  | ((with_reducible apply r_cmp); walk_at "w")
  | ((with_reducible apply r_chain); walk_at "w")
  | ((with_reducible apply r_chain3); walk_at "w")
  | ((with_reducible apply r_isc); walk_at "w")
  | ((with_reducible apply r_and); walk_at "w")
  | ((with_reducible apply r_or); walk_at "w")
  | ((with_reducible apply r_not); walk_at "w")
  | ((with_reducible apply r_ite); walk_at "w")
  | ((with_reducible apply r_sl); walk_at "w")
  | ((with_reducible apply r_rev); walk_at "w")
  | ((with_reducible apply r_isi); walk_at "w")
  | ((with_reducible apply r_bi2); walk_at "w")
  | ((with_reducible apply r_lc); walk_at "w")
  | ((with_reducible apply r_list); walk_at "w")
  | ((with_reducible apply r_vo); (focus (exact rfl)); walk_at "w")
  | ((with_reducible apply r_vs); (focus (exact rfl)); walk_at "w")
  | ((with_reducible apply r_bi1); (focus (decide)); walk_at "w"))
local macro_rules | `(tactic| walk_at "gT") => `(tactic| first
  | ((with_reducible apply t_cmp); walk_at "w")
  | ((with_reducible apply t_and); walk_at "w")
  | ((with_reducible apply t_or); walk_at "w")
  | ((with_reducible apply t_not); walk_at "w")
  | ((with_reducible apply t_chain); walk_at "w")
  | ((with_reducible apply t_chain3); walk_at "w")
  | ((with_reducible apply t_isc); walk_at "w")
  | ((with_reducible apply t_isi); walk_at "w")
  | ((with_reducible apply t_bi1); walk_at "w")
  | ((with_reducible apply t_ix); walk_at "w")
  | ((with_reducible apply t_call); walk_at "w")
  | ((with_reducible apply t_bin); walk_at "w")
  | ((with_reducible apply t_v); (focus (exact rfl)); walk_at "w"))
local macro_rules | `(tactic| walk_at "gS") => `(tactic| first
  | ((with_reducible apply s_asg); walk_at "w")
  | ((with_reducible apply s_asgT); walk_at "w")
  | ((with_reducible apply s_par); walk_at "w")
  | ((with_reducible apply s_ex); walk_at "w")
  | ((with_reducible apply s_ite); walk_at "w")
  | ((with_reducible apply s_ret); (focus (exact rfl)); walk_at "w")
  | ((with_reducible apply s_ret0); walk_at "w")
  | ((with_reducible apply s_whl); walk_at "w")
  | ((with_reducible apply s_for); walk_at "w")
  | ((with_reducible apply s_pass); walk_at "w")
  | ((with_reducible apply s_brk); walk_at "w")
  | ((with_reducible apply s_cnt); walk_at "w")
  | ((with_reducible apply s_retV); (focus (exact rfl)); walk_at "w")
  | ((with_reducible apply s_retO); (focus (exact rfl)); walk_at "w")
  | ((with_reducible apply s_set); (focus (exact rfl)); walk_at "w")
  | ((with_reducible apply s_app); (focus (exact rfl)); walk_at "w"))
local macro_rules | `(tactic| walk_at "gSs") => `(tactic| first
  | ((with_reducible apply ss_cons); walk_at "w")
  | ((with_reducible apply ss_nil); walk_at "w"))
local macro_rules | `(tactic| walk_at "gBin") => `(tactic| first
  | ((with_reducible apply o_addI); walk_at "w")
  | ((with_reducible apply o_mulI); (focus (walk_at "s")); walk_at "w")
  | ((with_reducible apply o_subI); walk_at "w")
  | ((with_reducible apply o_fdivI); (focus (walk_at "s")); walk_at "w")
  | ((with_reducible apply o_modI); (focus (walk_at "s")); walk_at "w")
  | ((with_reducible apply o_powI); (focus (walk_at "s")); walk_at "w")
  | ((with_reducible apply o_addL); (focus (walk_at "s")); walk_at "w")
  | ((with_reducible apply o_addT); (focus (walk_at "s")); walk_at "w")
  | ((with_reducible apply o_mulT); (focus (exact ⟨(fun h => by cases h), by decide, by decide, by decide⟩)); walk_at "w")
  | ((with_reducible apply o_mulL); (focus (first | exact ⟨by decide, by decide, by decide⟩ | exact ⟨by omega, by omega, by simp; omega⟩)); walk_at "w"))
local macro_rules | `(tactic| walk_at "gCmp") => `(tactic| first
  | ((with_reducible apply o_eqI); walk_at "w")
  | ((with_reducible apply o_neI); walk_at "w")
  | ((with_reducible apply o_ltI); walk_at "w")
  | ((with_reducible apply o_leI); walk_at "w")
  | ((with_reducible apply o_gtI); walk_at "w")
  | ((with_reducible apply o_geI); walk_at "w")
  | ((with_reducible apply o_eq); (focus (walk_at "s")); walk_at "w")
  | ((with_reducible apply o_ne); (focus (walk_at "s")); walk_at "w")
  | ((with_reducible apply o_inT); (focus (walk_at "s")); walk_at "w")
  | ((with_reducible apply o_ninT); (focus (walk_at "s")); walk_at "w")
  | ((with_reducible apply o_inL); (focus (walk_at "s")); walk_at "w")
  | ((with_reducible apply o_ninL); (focus (walk_at "s")); walk_at "w"))
local macro_rules | `(tactic| walk_at "gTru") => `(tactic| first
  | ((with_reducible apply o_truB); walk_at "w")
  | ((with_reducible apply o_truI); walk_at "w")
  | ((with_reducible apply o_truL); walk_at "w")
  | ((with_reducible apply o_truT); walk_at "w")
  | ((with_reducible apply o_truN); walk_at "w"))
local macro_rules | `(tactic| walk_at "gBi1") => `(tactic| first
  | ((with_reducible apply o_lenL); walk_at "w")
  | ((with_reducible apply o_lenT); walk_at "w")
  | ((with_reducible apply o_abs); walk_at "w")
  | ((with_reducible apply o_int); walk_at "w")
  | ((with_reducible apply o_listL); walk_at "w")
  | ((with_reducible apply o_listT); walk_at "w")
  | ((with_reducible apply o_tupL); walk_at "w")
  | ((with_reducible apply o_tupT); walk_at "w"))
local macro_rules | `(tactic| walk_at "gStp") => `(tactic| first
  | ((with_reducible apply dx_list); (focus (exact rfl)); walk_at "w")
  | ((with_reducible apply dx_tup); (focus (exact rfl)); walk_at "w")
  | ((with_reducible apply ss_go); walk_at "w")
  | walk_at "k")
local macro_rules | `(tactic| walk_at "gBr") => `(tactic| first
  | ((with_reducible refine brT ?_ ?_); (focus (exact rfl)); walk_at "w")
  | ((with_reducible refine brF ?_ ?_); (focus (exact rfl)); walk_at "w"))
local macro_rules | `(tactic| walk_at "w") => `(tactic| first
  | ((with_reducible apply gO); walk_at "gO")
  | ((with_reducible apply gP); walk_at "gP")
  | ((with_reducible apply gE); walk_at "gE")
  | ((with_reducible apply r_at); (focus (walk_at "ev")); walk_at "w")
  | ((with_reducible apply r_oD); walk_at "w")
  | ((with_reducible refine And.intro ?_ ?_); (focus (walk_at "s")); walk_at "w")
  | ((with_reducible apply gSs); walk_at "gSs")
  | ((with_reducible apply gS); walk_at "gS")
  | ((with_reducible apply gT); walk_at "gT")
  | ((with_reducible apply gBin); walk_at "gBin")
  | ((with_reducible apply gCmp); walk_at "gCmp")
  | ((with_reducible apply gTru); walk_at "gTru")
  | ((with_reducible apply gBr); walk_at "gBr")
  | ((with_reducible apply gStp); walk_at "gStp")
  | ((with_reducible apply es_cons); walk_at "w")
  | ((with_reducible apply es_nil); walk_at "w")
  | ((with_reducible apply as_nil); walk_at "w")
  | ((with_reducible apply as_val); walk_at "w")
  | ((with_reducible apply as_ref); (focus (walk_at "s")); walk_at "w")
  | ((with_reducible apply gBi1); walk_at "gBi1")
  | ((with_reducible apply b_n); (focus (walk_at "s")); walk_at "w")
  | ((with_reducible apply b_t); walk_at "w")
  | ((with_reducible apply bs_cons); walk_at "w")
  | ((with_reducible apply bs_nil); walk_at "w")
  | ((with_reducible apply rs_cons); walk_at "w")
  | ((with_reducible apply rs_nil); walk_at "w")
  | ((with_reducible apply Rt_go); (focus (with_reducible assumption)); (focus (walk_at "ev")); walk_at "w")
  | ((with_reducible apply wl_succ); walk_at "w")
  | ((with_reducible apply it_e); walk_at "w")
  | ((with_reducible apply it_rng1); walk_at "w")
  | ((with_reducible apply it_rng2); walk_at "w")
  | ((with_reducible apply it_zip); walk_at "w")
  | ((with_reducible apply zip_l); walk_at "w")
  | ((with_reducible apply zip_t); walk_at "w")
  | ((with_reducible apply it_enum); walk_at "w")
  | ((with_reducible apply enu_l); walk_at "w")
  | ((with_reducible apply to_som); walk_at "w")
  | ((with_reducible apply to_non); walk_at "w")
  | ((with_reducible apply eo_som); walk_at "w")
  | ((with_reducible apply eo_non); walk_at "w")
  | ((with_reducible apply wf_cons); (focus (walk_at "s")); walk_at "w")
  | ((with_reducible apply wf_nil); (focus (walk_at "s")); walk_at "w")
  | ((with_reducible apply wc_cons); (focus (walk_at "s")); walk_at "w")
  | ((with_reducible apply wc_nil); (focus (walk_at "s")); walk_at "w")
  | ((with_reducible apply r_lstS); (focus (exact rfl)); walk_at "w")
  | ((with_reducible apply r_lstN); (focus (exact rfl)); walk_at "w")
  | ((with_reducible apply o_isNN); walk_at "w")
  | ((with_reducible apply o_isN); (focus (exact rfl)); walk_at "w")
  | ((with_reducible apply o_isB); walk_at "w")
  | ((with_reducible apply o_max2); walk_at "w")
  | ((with_reducible apply o_min2); walk_at "w")
  | ((with_reducible apply o_slL); walk_at "w")
  | ((with_reducible apply o_slT); walk_at "w")
  | ((with_reducible apply o_revL); walk_at "w")
  | ((with_reducible apply set_go); (focus (exact rfl)); (focus (decide)); (focus (exact rfl)); walk_at "w")
  | ((with_reducible apply app_go); (focus (exact rfl)); (focus (decide)); (focus (walk_at "s")); walk_at "w")
  | skip)
local macro_rules | `(tactic| walk_at "f") => `(tactic| (conv => whnf); first
  | exact True.intro
  | ((refine And.intro True.intro ?_); walk_at "f"))
local macro_rules | `(tactic| walk_at "c") => `(tactic| (apply enterR); (focus (exact rfl)); (focus (walk_at "f")); (focus (walk_at "ev")); (focus ((intro R hR); walk_at "w")))
local macro_rules | `(tactic| walk_at "o") => `(tactic| (first | with_reducible apply wc_openI | with_reducible apply wc_openV | with_reducible apply wf_openI | with_reducible apply wf_openV); (focus (walk_at "ev")); walk_at "w")
local macro_rules | `(tactic| walk_at "p") => `(tactic| (first | with_reducible apply wc_keepI | with_reducible apply wc_keepV | with_reducible apply wf_keepI | with_reducible apply wf_keepV); (focus (walk_at "ev")))
local macro_rules | `(tactic| walk_at "k") => `(tactic| fail "no spec")
local macro_rules | `(tactic| walk_at "lx") => `(tactic| first
  | exact lv_nil rfl
  | ((apply lv_cons); (focus (exact rfl)); (focus (conv => lhs; whnf)); walk_at "lx"))
local macro_rules | `(tactic| walk_at "oo") => `(tactic| (first | with_reducible apply wc_openLI | with_reducible apply wc_openLV | with_reducible apply wf_openLI | with_reducible apply wf_openLV); (focus (walk_at "ev")); (focus (walk_at "lx")); walk_at "w")
local macro_rules | `(tactic| walk_at "uO") => `(tactic| first
  | ((with_reducible apply r_oV); (focus (walk_at "s")); walk_at "u")
  | ((with_reducible apply r_oE); (focus (exact rfl)); walk_at "u"))
local macro_rules | `(tactic| walk_at "uP") => `(tactic| first
  | ((with_reducible apply r_lend); (focus (exact rfl)); (focus (walk_at "ev")); walk_at "u")
  | ((with_reducible apply r_oP); (focus (exact rfl)); walk_at "u"))
local macro_rules | `(tactic| walk_at "uE") => `(tactic| first
  | ((with_reducible apply r_bin); walk_at "u")
  | ((with_reducible apply r_ix); walk_at "u")
  | ((with_reducible apply r_c); walk_at "u")
  | ((with_reducible apply r_vv); (focus (exact rfl)); walk_at "u")
  | ((with_reducible apply r_call); (focus (walk_at "bl")); walk_at "u")
  | ((with_reducible apply r_tup); walk_at "u")
  | ((with_reducible apply r_lst); walk_at "u")
  | ((with_reducible apply r_g); walk_at "u")
  | ((with_reducible apply r_neg); walk_at "u")
  | ((with_reducible apply r_cmp); walk_at "u")
  | ((with_reducible apply r_chain); walk_at "u")
  | ((with_reducible apply r_chain3); walk_at "u")
  | ((with_reducible apply r_isc); walk_at "u")
  | ((with_reducible apply r_and); walk_at "u")
  | ((with_reducible apply r_or); walk_at "u")
  | ((with_reducible apply r_not); walk_at "u")
  | ((with_reducible apply r_ite); walk_at "u")
  | ((with_reducible apply r_sl); walk_at "u")
  | ((with_reducible apply r_rev); walk_at "u")
  | ((with_reducible apply r_isi); walk_at "u")
  | ((with_reducible apply r_bi2); walk_at "u")
  | ((with_reducible apply r_lc); walk_at "u")
  | ((with_reducible apply r_list); walk_at "u")
  | ((with_reducible apply r_vo); (focus (exact rfl)); walk_at "u")
  | ((with_reducible apply r_vs); (focus (exact rfl)); walk_at "u")
  | ((with_reducible apply r_bi1); (focus (decide)); walk_at "u"))
local macro_rules | `(tactic| walk_at "uT") => `(tactic| first
  | ((with_reducible apply t_cmp); walk_at "u")
  | ((with_reducible apply t_and); walk_at "u")
  | ((with_reducible apply t_or); walk_at "u")
  | ((with_reducible apply t_not); walk_at "u")
  | ((with_reducible apply t_chain); walk_at "u")
  | ((with_reducible apply t_chain3); walk_at "u")
  | ((with_reducible apply t_isc); walk_at "u")
  | ((with_reducible apply t_isi); walk_at "u")
  | ((with_reducible apply t_bi1); walk_at "u")
  | ((with_reducible apply t_ix); walk_at "u")
  | ((with_reducible apply t_call); walk_at "u")
  | ((with_reducible apply t_bin); walk_at "u")
  | ((with_reducible apply t_v); (focus (exact rfl)); walk_at "u"))
local macro_rules | `(tactic| walk_at "uS") => `(tactic| first
  | ((with_reducible apply s_asg); walk_at "u")
  | ((with_reducible apply s_asgT); walk_at "u")
  | ((with_reducible apply s_par); walk_at "u")
  | ((with_reducible apply s_ex); walk_at "u")
  | ((with_reducible apply s_ite); walk_at "u")
  | ((with_reducible apply s_ret); (focus (exact rfl)); walk_at "u")
  | ((with_reducible apply s_ret0); walk_at "u")
  | ((with_reducible apply s_whl); walk_at "u")
  | ((with_reducible apply s_for); walk_at "u")
  | ((with_reducible apply s_pass); walk_at "u")
  | ((with_reducible apply s_brk); walk_at "u")
  | ((with_reducible apply s_cnt); walk_at "u")
  | ((with_reducible apply s_retV); (focus (exact rfl)); walk_at "u")
  | ((with_reducible apply s_retO); (focus (exact rfl)); walk_at "u")
  | ((with_reducible apply s_set); (focus (exact rfl)); walk_at "u")
  | ((with_reducible apply s_app); (focus (exact rfl)); walk_at "u"))
local macro_rules | `(tactic| walk_at "uSs") => `(tactic| first
  | ((with_reducible apply ss_cons); walk_at "u")
  | ((with_reducible apply ss_nil); walk_at "u"))
local macro_rules | `(tactic| walk_at "uBin") => `(tactic| first
  | ((with_reducible apply o_addI); walk_at "u")
  | ((with_reducible apply o_mulI); (focus (walk_at "s")); walk_at "u")
  | ((with_reducible apply o_subI); walk_at "u")
  | ((with_reducible apply o_fdivI); (focus (walk_at "s")); walk_at "u")
  | ((with_reducible apply o_modI); (focus (walk_at "s")); walk_at "u")
  | ((with_reducible apply o_powI); (focus (walk_at "s")); walk_at "u")
  | ((with_reducible apply o_addL); (focus (walk_at "s")); walk_at "u")
  | ((with_reducible apply o_addT); (focus (walk_at "s")); walk_at "u")
  | ((with_reducible apply o_mulT); (focus (exact ⟨(fun h => by cases h), by decide, by decide, by decide⟩)); walk_at "u")
  | ((with_reducible apply o_mulL); (focus (first | exact ⟨by decide, by decide, by decide⟩ | exact ⟨by omega, by omega, by simp; omega⟩)); walk_at "u"))
local macro_rules | `(tactic| walk_at "uCmp") => `(tactic| first
  | ((with_reducible apply o_eqI); walk_at "u")
  | ((with_reducible apply o_neI); walk_at "u")
  | ((with_reducible apply o_ltI); walk_at "u")
  | ((with_reducible apply o_leI); walk_at "u")
  | ((with_reducible apply o_gtI); walk_at "u")
  | ((with_reducible apply o_geI); walk_at "u")
  | ((with_reducible apply o_eq); (focus (walk_at "s")); walk_at "u")
  | ((with_reducible apply o_ne); (focus (walk_at "s")); walk_at "u")
  | ((with_reducible apply o_inT); (focus (walk_at "s")); walk_at "u")
  | ((with_reducible apply o_ninT); (focus (walk_at "s")); walk_at "u")
  | ((with_reducible apply o_inL); (focus (walk_at "s")); walk_at "u")
  | ((with_reducible apply o_ninL); (focus (walk_at "s")); walk_at "u"))
local macro_rules | `(tactic| walk_at "uTru") => `(tactic| first
  | ((with_reducible apply o_truB); walk_at "u")
  | ((with_reducible apply o_truI); walk_at "u")
  | ((with_reducible apply o_truL); walk_at "u")
  | ((with_reducible apply o_truT); walk_at "u")
  | ((with_reducible apply o_truN); walk_at "u"))
local macro_rules | `(tactic| walk_at "uBi1") => `(tactic| first
  | ((with_reducible apply o_lenL); walk_at "u")
  | ((with_reducible apply o_lenT); walk_at "u")
  | ((with_reducible apply o_abs); walk_at "u")
  | ((with_reducible apply o_int); walk_at "u")
  | ((with_reducible apply o_listL); walk_at "u")
  | ((with_reducible apply o_listT); walk_at "u")
  | ((with_reducible apply o_tupL); walk_at "u")
  | ((with_reducible apply o_tupT); walk_at "u"))
local macro_rules | `(tactic| walk_at "uStp") => `(tactic| first
  | ((with_reducible apply dx_list); (focus (exact rfl)); walk_at "u")
  | ((with_reducible apply dx_tup); (focus (exact rfl)); walk_at "u")
  | walk_at "ku")
local macro_rules | `(tactic| walk_at "uBr") => `(tactic| first
  | ((with_reducible refine brT ?_ ?_); (focus (exact rfl)); walk_at "u")
  | ((with_reducible refine brF ?_ ?_); (focus (exact rfl)); walk_at "u"))
local macro_rules | `(tactic| walk_at "u") => `(tactic| first
  | ((with_reducible apply gO); walk_at "uO")
  | ((with_reducible apply gP); walk_at "uP")
  | ((with_reducible apply gE); walk_at "uE")
  | ((with_reducible apply r_at); (focus (walk_at "ev")); walk_at "u")
  | ((with_reducible apply r_oD); walk_at "u")
  | ((with_reducible refine And.intro ?_ ?_); (focus (walk_at "s")); walk_at "u")
  | ((with_reducible apply gSs); walk_at "uSs")
  | ((with_reducible apply gS); walk_at "uS")
  | ((with_reducible apply gT); walk_at "uT")
  | ((with_reducible apply gBin); walk_at "uBin")
  | ((with_reducible apply gCmp); walk_at "uCmp")
  | ((with_reducible apply gTru); walk_at "uTru")
  | ((with_reducible apply gBr); walk_at "uBr")
  | ((with_reducible apply gStp); walk_at "uStp")
  | ((with_reducible apply es_cons); walk_at "u")
  | ((with_reducible apply es_nil); walk_at "u")
  | ((with_reducible apply as_nil); walk_at "u")
  | ((with_reducible apply as_val); walk_at "u")
  | ((with_reducible apply as_ref); (focus (walk_at "s")); walk_at "u")
  | ((with_reducible apply gBi1); walk_at "uBi1")
  | ((with_reducible apply b_n); (focus (walk_at "s")); walk_at "u")
  | ((with_reducible apply b_t); walk_at "u")
  | ((with_reducible apply bs_cons); walk_at "u")
  | ((with_reducible apply bs_nil); walk_at "u")
  | ((with_reducible apply rs_cons); walk_at "u")
  | ((with_reducible apply rs_nil); walk_at "u")
  | ((with_reducible apply Rt_go); (focus (with_reducible assumption)); (focus (walk_at "ev")); walk_at "u")
  | ((with_reducible apply wl_succ); walk_at "u")
  | ((with_reducible apply it_e); walk_at "u")
  | ((with_reducible apply it_rng1); walk_at "u")
  | ((with_reducible apply it_rng2); walk_at "u")
  | ((with_reducible apply it_zip); walk_at "u")
  | ((with_reducible apply zip_l); walk_at "u")
  | ((with_reducible apply zip_t); walk_at "u")
  | ((with_reducible apply it_enum); walk_at "u")
  | ((with_reducible apply enu_l); walk_at "u")
  | ((with_reducible apply to_som); walk_at "u")
  | ((with_reducible apply to_non); walk_at "u")
  | ((with_reducible apply eo_som); walk_at "u")
  | ((with_reducible apply eo_non); walk_at "u")
  | ((with_reducible apply wf_cons); (focus (walk_at "s")); walk_at "u")
  | ((with_reducible apply wf_nil); (focus (walk_at "s")); walk_at "u")
  | ((with_reducible apply wc_cons); (focus (walk_at "s")); walk_at "u")
  | ((with_reducible apply wc_nil); (focus (walk_at "s")); walk_at "u")
  | ((with_reducible apply r_lstS); (focus (exact rfl)); walk_at "u")
  | ((with_reducible apply r_lstN); (focus (exact rfl)); walk_at "u")
  | ((with_reducible apply o_isNN); walk_at "u")
  | ((with_reducible apply o_isN); (focus (exact rfl)); walk_at "u")
  | ((with_reducible apply o_isB); walk_at "u")
  | ((with_reducible apply o_max2); walk_at "u")
  | ((with_reducible apply o_min2); walk_at "u")
  | ((with_reducible apply o_slL); walk_at "u")
  | ((with_reducible apply o_slT); walk_at "u")
  | ((with_reducible apply o_revL); walk_at "u")
  | ((with_reducible apply set_go); (focus (exact rfl)); (focus (decide)); (focus (exact rfl)); walk_at "u")
  | ((with_reducible apply app_go); (focus (exact rfl)); (focus (decide)); (focus (walk_at "s")); walk_at "u")
  | skip)
local macro_rules | `(tactic| walk_at "ku") => `(tactic| fail "no spec")
local macro_rules | `(tactic| walk_at "a") => `(tactic| (with_reducible apply ss_go); (with_reducible apply ss_cons); (with_reducible apply s_asg))
local macro_rules | `(tactic| walk_at "cu") => `(tactic| (apply enterR); (focus (exact rfl)); (focus (walk_at "f")); (focus (walk_at "ev")); (focus ((intro R hR); walk_at "u")))
local macro_rules | `(tactic| walk_at "s1") => `(tactic| (with_reducible apply ss_go); (with_reducible apply ss_cons))
theorem sp_law_factors {k : Nat} (hk : 1 ≤ k) {n0 : Int} (h0 : Nm n0) {Q : Sl → List Sl → Prop} (hQ : Q (.own .free ((Nf.fac n0.toNat).map Nf.dP)) [.no]) : stp (wCall fns k 23 [.val (.int n0)] Q) := by
  obtain ⟨k, rfl⟩ := Nat.exists_eq_add_of_le' hk
  have hn0 := h0.lo
  have hn1 := h0.hi
  walk_at "c"
  refine wLoop_run (fun m e => ∃ (n t : Nat) (N T : Int) (l : Nf.L) (x3 : Sl), e = [.val (.int N), .own .free (l.map Nf.dP), .val (.int T), x3] ∧ N = n ∧ T = t ∧ freeSl (some x3) ∧ St m n t l (Nf.fac n0.toNat)) ?_ (m := Nf.FF) ⟨n0.toNat, 2, n0, 2, [], .no, rfl, by omega, rfl, trivial, Nf.tr2 (by omega) (by omega), Nat.lt_of_le_of_lt (show n0.toNat ≤ 10 ^ 10 by omega) (by decide), rfl, by omega, by decide, by decide⟩
  rintro m e ⟨n, t, N, T, l, x3, rfl, hN, hT, f3, st⟩ fu next
  have t2 := st.tr.t2
  have tb := st.tb
  have bT : Bd 64 T := .of (by omega)
  have i1 : IntMulOk T T := mulOk bT bT (by omega)
  have ne : T ≠ 0 := by omega
  have dv := divB (a := T) (by omega) (by omega)
  have eM2 : T.fmod 2 = ((t % 2 : Nat) : Int) := by rw [hT]; exact natMod (t := 2)
  have eTT : T * T = ((t * t : Nat) : Int) := by rw [hT, Int.natCast_mul]
  walk_at "w"
  refine brI (fun h => ?_) (fun h => ?_)
  · have hsq : t * t ≤ n := by have := of_decide_eq_true h; rw [eTT, hN] at this; omega
    obtain ⟨g, rfl⟩ := st.fu1 hsq
    walk_at "w"
    refine wLoop_run (fun m e => ∃ (a j : Nat) (A J : Int), e = [.val (.int A), .own .free (l.map Nf.dP), .val (.int T), .val (.int J)] ∧ A = a ∧ J = j ∧ 0 < a ∧ a < 2 ^ m ∧ m ≤ 40 ∧ (Nf.pull m t a).1 = (Nf.pull 40 t n).1 ∧ (Nf.pull m t a).2 + j = (Nf.pull 40 t n).2) ?_ (m := 40) ⟨n, 0, N, 0, rfl, hN, rfl, st.tr.n0, st.tr.n1, by decide, rfl, rfl⟩
    rintro m e ⟨a, j, A, J, rfl, hA, hJ, a0, am, m40, p1, p2⟩ fu2 next2
    have eM : A.fmod T = ((a % t : Nat) : Int) := by rw [hA, hT]; exact natMod
    have eD : A.fdiv T = ((a / t : Nat) : Int) := by rw [hA, hT]; exact natDiv
    have bA : Bd 64 A := .of (by
      have := Nat.pow_le_pow_right (n := 2) (by decide) m40
      have e : 2 ^ 40 = 1099511627776 := by decide
      omega)
    walk_at "w"
    refine brI (fun h2 => ?_) (fun h2 => ?_)
    · rw [eM, beq_iff_eq] at h2
      have hz : a % t = 0 := by omega
      cases m with
      | zero => omega
      | succ m =>
        rw [Nf.pull_succ, if_pos hz] at p1 p2
        have hd := Nat.div_add_mod a t
        rw [hz] at hd
        have h1 : 0 < a / t := Nat.div_pos (Nat.le_of_dvd a0 (Nat.dvd_of_mod_eq_zero hz)) (by omega)
        have h3 : a / t < 2 ^ m := by
          rw [Nat.pow_succ] at am
          have : 2 * (a / t) ≤ t * (a / t) := Nat.mul_le_mul_right _ t2
          omega
        walk_at "w"
        exact next2 _ _ (Nat.lt_succ_self m) ⟨a / t, j + 1, _, _, rfl, eD, by omega, h1, h3, by omega, p1, by simp only at p2; omega⟩
    · rw [eM, beq_eq_false_iff_ne] at h2
      have hz : a % t ≠ 0 := by omega
      have hp : Nf.pull m t a = (a, 0) := by
        cases m with
        | zero => rfl
        | succ m => rw [Nf.pull_succ, if_neg hz]
      rw [hp] at p1 p2
      simp only at p1 p2
      walk_at "w"
      refine brI (fun h3 => ?_) (fun h3 => ?_)
      · have hm : n % t = 0 := by
          apply Decidable.byContradiction
          intro q
          rw [pull_zero q] at p2
          have := of_decide_eq_true h3
          simp only at p2
          omega
        have st2 := st.ou hsq hm
        have ll := st.ll
        have eF : Nf.FF = 100000 := rfl
        walk_at "w"
        refine app_go rfl (by decide) (Nat.lt_of_le_of_lt (show _ ≤ 100000 by rw [List.length_map]; omega) (of_decide_eq_true rfl)) ?_
        have eL : l.map Nf.dP ++ [.tuple [.int T, .int J]] = (l ++ [(t, (Nf.pull 40 t n).2)]).map Nf.dP := by
          rw [List.map_append, hT, hJ, ← p2]
          simp
        rw [eL]
        walk_at "w"
        exact next _ _ (Nat.lt_succ_self g) ⟨_, Nf.nxt t, _, _, _, _, rfl, by rw [hA, p1], by rw [eM2]; unfold Nf.nxt; omega, trivial, st2⟩
      · have hm : n % t ≠ 0 := by
          intro q
          have := pull_pos q
          have := of_decide_eq_false h3
          omega
        rw [pull_zero hm] at p1
        simp only at p1
        have st2 := st.sk hsq hm
        walk_at "w"
        exact next _ _ (Nat.lt_succ_self g) ⟨_, Nf.nxt t, _, _, _, _, rfl, by rw [hA, p1], by rw [eM2]; unfold Nf.nxt; omega, trivial, st2⟩
  · have hsq : ¬ t * t ≤ n := fun q => by have := of_decide_eq_false h; rw [eTT, hN] at this; omega
    have hfin := st.fin hsq
    have ll := st.ll
    have eF : Nf.FF = 100000 := rfl
    have hl : ∀ ds : List D, ds.length ≤ 1 → (l.map Nf.dP).length + ds.length ≤ sizeLine := fun ds h => Nat.le_trans (show _ ≤ 100001 by rw [List.length_map]; omega) (of_decide_eq_true rfl)
    unfold Nf.last at hfin
    walk_at "w"
    refine brI (fun h2 => ?_) (fun h2 => ?_)
    · have h2 := of_decide_eq_true h2
      rw [if_pos (by rw [Nat.ble_eq]; omega)] at hfin
      walk_at "w"
      refine o_addL (hl _ (by simp)) ?_
      have eL : l.map Nf.dP ++ [.tuple [.int N, .int 1]] = (l ++ [(n, 1)]).map Nf.dP := by
        rw [List.map_append, hN]
        rfl
      rw [eL, ← hfin]
      walk_at "w"
      exact hQ
    · have h2 := of_decide_eq_false h2
      rw [if_neg (by rw [Nat.ble_eq]; omega)] at hfin
      walk_at "w"
      refine o_addL (hl _ (by simp)) ?_
      rw [List.append_nil]
      rw [List.append_nil] at hfin
      rw [← hfin]
      walk_at "w"
      exact hQ
theorem pws_at {x : Nat × Nat} {k : Nat} {dn rs : List Int} {t : Int} (h : dn ++ t :: rs = Nf.pws x k) : t = (x.1 : Int) ^ dn.length := by
  have h1 := congrArg (fun l => l[dn.length]?) h
  simp only [List.getElem?_append_right (Nat.le_refl _), Nat.sub_self, List.getElem?_cons_zero] at h1
  have hk : dn.length < k := by
    have := congrArg List.length h
    unfold Nf.pws at this
    simp at this
    omega
  unfold Nf.pws at h1
  rw [List.getElem?_map, List.getElem?_range hk] at h1
  simp at h1
  exact h1
theorem pws_succ {x : Nat × Nat} {k : Nat} : Nf.pws x (k + 1) = Nf.pws x k ++ [(x.1 : Int) ^ k] := by
  unfold Nf.pws
  rw [List.range_succ, List.map_append]
  rfl
theorem pws_len {x : Nat × Nat} {k : Nat} : (Nf.pws x k).length = k := by
  unfold Nf.pws
  simp
theorem pws_ix {x : Nat × Nat} {k j : Nat} {i : Int} (h : ixN k i = some j) (hj : j < k) : atI ((Nf.pws x k).map PyData.int) i = some (.int ((x.1 : Int) ^ j)) := by
  unfold atI
  rw [List.length_map, pws_len, h]
  show ((Nf.pws x k).map PyData.int)[j]? = _
  unfold Nf.pws
  rw [List.getElem?_map, List.getElem?_map, List.getElem?_range hj]
  rfl
theorem pws_one {x : Nat × Nat} : Nf.pws x 1 = [1] := by
  unfold Nf.pws
  simp
theorem sum_bd : ∀ l : List Int, (∀ d ∈ l, d.natAbs < 2 ^ 40) → l.sum.natAbs ≤ l.length * 2 ^ 40
  | [], _ => by simp
  | d :: l, h => by
    have h1 := h d (List.mem_cons_self ..)
    have h2 := sum_bd l fun x hx => h x (List.mem_cons_of_mem _ hx)
    rw [List.sum_cons, List.length_cons, Nat.succ_mul]
    omega
theorem sig_bd {x : Nat × Nat} (h : x.1 ^ x.2 ≤ 10 ^ 10 ∧ 1 ≤ x.1) (h2 : x.2 ≤ 33) : Bd 50 (Nf.gSig x) := by
  have h3 := sum_bd (Nf.pws x (x.2 + 1)) fun d hd => by
    unfold Nf.pws at hd
    obtain ⟨j, hj, rfl⟩ := List.mem_map.mp hd
    exact (pow_bd h.1 h.2 (by have := List.mem_range.mp hj; omega)).lt
  rw [pws_len] at h3
  refine .of ?_
  unfold Nf.gSig
  have h4 : (x.2 + 1) * 2 ^ 40 ≤ 34 * 2 ^ 40 := Nat.mul_le_mul_right _ (by omega)
  have e1 : 34 * 2 ^ 40 < 2 ^ 50 := by decide
  omega
theorem mu_bd {x : Nat × Nat} : Bd 41 (Nf.gMu x) := .of (by unfold Nf.gMu; split <;> decide)
theorem ix_last {j : Nat} : ixN (j + 1) (-1) = some j := by
  unfold ixN
  simp
  omega
theorem ix_last2 {j : Nat} : ixN (j + 2) (-2) = some j := by
  unfold ixN
  simp
  omega
theorem ix_at {k j : Nat} {J : Int} (h : J = j) (hj : j < k) : ixN k J = some j := by
  subst h
  unfold ixN
  simp
  omega
theorem sp_law_right {k : Nat} (hk : 12 ≤ k) {n : Int} (h : Nm n) {Q : Sl → List Sl → Prop} (hQ : Q (.val (.bool true)) [.no]) : stp (wCall fns k 24 [.val (.int n)] Q) := by
  obtain ⟨k, rfl⟩ := Nat.exists_eq_add_of_le' hk
  walk_at "c"
  refine sp_law_factors (by omega) h ?_
  walk_at "w"
  refine sp_factors_of (by omega) h ?_
  walk_at "w"
  refine sp_is_prime_number (by omega) h ?_
  walk_at "w"
  refine o_eq ⟨any_dPs.shaped (by decide), rfl⟩ ?_
  rw [isP_eqv' h]
  walk_at "w"
  have a2 : Any 3 (.list [.tuple ((fa n).map Nf.dP), .bool (isP n.toNat)]) := Any.list fun x hx => by
    simp only [List.mem_cons, List.not_mem_nil, or_false] at hx
    rcases hx with rfl | rfl
    · exact any_dPt
    · exact Any.bool _
  refine sp_same rfl a2.lay (Nat.le_trans a2.dep (by decide)) (by omega) ?_
  walk_at "w"
  refine dFor_run (fun l e => ∃ (done rest : Nf.L) (xd x9 x10 x11 x12 x13 x14 : Sl) (z4 z5 z6 z7 z8 : Int), e = [.val (.int n), .own .lck ((fa n).map Nf.dP), .val (.list [.tuple ((fa n).map Nf.dP), .bool (isP n.toNat)]), xd, .val (.int z4), .val (.int z5), .val (.int z6), .val (.int z7), .val (.int z8), x9, x10, x11, x12, x13, x14, .no] ∧ (xd = .own .free ((Nf.dvs done).map PyData.int) ∨ xd = .val (.list ((Nf.dvs done).map PyData.int))) ∧ freeSl (some x9) ∧ freeSl (some x10) ∧ freeSl (some x11) ∧ freeSl (some x12) ∧ freeSl (some x13) ∧ freeSl (some x14) ∧ z4 = Nf.prodI Nf.gCnt done ∧ z5 = Nf.prodI Nf.gSig done ∧ z6 = Nf.prodI Nf.gPhi done ∧ z7 = Nf.prodI Nf.gMu done ∧ z8 = Nf.prodI Nf.gRt done ∧ l = rest.map Nf.dP ∧ done ++ rest = fa n) ?_ ?_ ⟨[], fa n, _, .no, .no, .no, .no, .no, .no, 1, 1, 1, 1, 1, rfl, .inl rfl, trivial, trivial, trivial, trivial, trivial, trivial, rfl, rfl, rfl, rfl, rfl, rfl, rfl⟩
  · rintro e ⟨done, rest, xd, x9, x10, x11, x12, x13, x14, z4, z5, z6, z7, z8, rfl, hxd, f9, f10, f11, f12, f13, f14, h4, h5, h6, h7, h8, hl, hall⟩
    have hr : rest = [] := List.map_eq_nil_iff.mp hl.symm
    subst hr
    rw [List.append_nil] at hall
    subst hall
    have lo := h.lo
    have hi := h.hi
    have hrr := Nf.root_rest (fa n)
    have hpf := Nf.pf_int (fa n)
    rw [h.fc.pf] at hpf
    have pt := Pt.of h (d := fa n) (r := []) (List.append_nil _)
    have zp : 0 < z8 := by
      rw [h8]
      refine Nf.prodI_pos fun x hx => ?_
      have := (pt.al x hx).1.2
      unfold Nf.gRt
      exact Int.pow_pos (by omega)
    have b8 : Bd 1400 z8 := by rw [h8]; exact pt.bd fun x hx => rt_bd hx.1
    have i8 : IntMulOk z8 z8 := mulOk b8 b8 (by omega)
    have sqp : 0 < z8 * z8 := Int.mul_pos zp zp
    have en : z8 * z8 * Nf.prodI Nf.gRs (fa n) = n := by rw [h8, hrr, ← hpf]; omega
    have rsp : 0 < Nf.prodI Nf.gRs (fa n) := Nf.prodI_pos fun x hx => by
      have := (pt.al x hx).1.2
      unfold Nf.gRs
      split <;> omega
    have sql : z8 * z8 ≤ n := by
      have : z8 * z8 * 1 ≤ z8 * z8 * Nf.prodI Nf.gRs (fa n) := Int.mul_le_mul_of_nonneg_left (by omega) (by omega)
      omega
    have ed : n.fdiv (z8 * z8) = Nf.prodI Nf.gRs (fa n) := by
      conv => lhs; rw [← en]
      exact Int.mul_fdiv_cancel_left _ (by omega)
    have dv := divB sqp (by omega)
    have aT : Any 3 (.list [.tuple ((Nf.isort (Nf.dvs (fa n))).map PyData.int), .int (Nf.prodI Nf.gCnt (fa n)), .int (Nf.prodI Nf.gSig (fa n)), .int (Nf.prodI Nf.gPhi (fa n)), .int (Nf.prodI Nf.gMu (fa n)), .tuple [.int (Nf.prodI Nf.gRt (fa n)), .int (Nf.prodI Nf.gRs (fa n))]]) := Any.list fun x hx => by
      simp only [List.mem_cons, List.not_mem_nil, or_false] at hx
      rcases hx with rfl | rfl | rfl | rfl | rfl | rfl
      · exact Any.tup fun y hy => by
          obtain ⟨d, -, rfl⟩ := List.mem_map.mp hy
          exact Any.int _
      · exact Any.int _
      · exact Any.int _
      · exact Any.int _
      · exact Any.int _
      · exact ⟨rfl, of_decide_eq_true rfl⟩
    walk_at "w"
    refine sp_divisors_of (by omega) h ?_
    walk_at "w"
    refine sp_count_divisors (by omega) h ?_
    walk_at "w"
    refine sp_sum_of_divisors (by omega) h ?_
    walk_at "w"
    refine sp_totient_of (by omega) h ?_
    walk_at "w"
    refine sp_moebius_of (by omega) h ?_
    walk_at "w"
    refine sp_split_square (by omega) h ?_
    walk_at "w"
    rcases hxd with rfl | rfl
    all_goals
      walk_at "w"
      refine o_sorted (ns := Nf.dvs (fa n)) rfl fun ns' pe so => ?_
      rw [Nf.isort_uniq pe so]
      walk_at "w"
      rw [ed, h4, h5, h6, h7, h8]
      refine sp_same rfl aT.lay (Nat.le_trans aT.dep (by decide)) (by omega) ?_
      walk_at "w"
      exact hQ
  · rintro x xs e ⟨done, rest, xd, x9, x10, x11, x12, x13, x14, z4, z5, z6, z7, z8, rfl, hxd, f9, f10, f11, f12, f13, f14, h4, h5, h6, h7, h8, hl, hall⟩ next
    cases rest with
    | nil => cases hl
    | cons y rest =>
      obtain ⟨p, ee⟩ := y
      injection hl with hx hxs
      have hy := pows h (x := (p, ee)) (by rw [← show done ++ (p, ee) :: rest = Nf.fac n.toNat from hall]; simp)
      simp only at hy
      obtain ⟨P, hP⟩ : ∃ P : Int, P = p := ⟨_, rfl⟩
      obtain ⟨E, hE⟩ : ∃ E : Int, E = ee := ⟨_, rfl⟩
      rw [hx, dP_eq hP hE]
      have part := Nf.Fc.part (x := (p, ee)) (by rw [hall]; exact h.fc) h.le
      simp only at part
      have pt := Pt.of h hall
      have hbd := dvs_bd (l := done) (fun x hx => (pt.al x hx).1) pt.len
      have hdv := Nf.dvs_len done
      have bP : Bd 64 P := .of (by omega)
      have bE : Bd 64 (E + 1) := .of (by omega)
      have b4 : Bd 1400 z4 := by rw [h4]; exact pt.bd fun x hx => cnt_bd hx.2.1
      have b5 : Bd 1700 z5 := by rw [h5]; exact (prod_bd done fun x hx => sig_bd (pt.al x hx).1 (pt.al x hx).2.1).mono (by have := pt.len; omega)
      have b6 : Bd 1400 z6 := by rw [h6]; exact pt.bd fun x hx => phi_bd hx.1
      have b8 : Bd 1400 z8 := by rw [h8]; exact pt.bd fun x hx => rt_bd hx.1
      have i4 : IntMulOk z4 (E + 1) := mulOk b4 bE (by omega)
      have i5 : IntMulOk z5 (Nf.gSig (p, ee)) := mulOk b5 (sig_bd ⟨hy.1, by simp only; omega⟩ hy.2.2.2.2) (by omega)
      have i6 : IntMulOk z6 (Nf.gPhi (p, ee)) := mulOk b6 (phi_bd ⟨hy.1, by simp only; omega⟩) (by omega)
      have i8 : IntMulOk z8 (Nf.gRt (p, ee)) := mulOk b8 (rt_bd ⟨hy.1, by simp only; omega⟩) (by omega)
      have fd : freeSl (some xd) := by rcases hxd with rfl | rfl <;> exact True.intro
      have i6' : IntMulOk z6 ((p : Int) ^ ee - (p : Int) ^ (ee - 1)) := i6
      have i8' : IntMulOk z8 ((p : Int) ^ (ee / 2)) := i8
      have ix2 : ixN (ee + 1) (-2) = some (ee - 1) := by
        unfold ixN
        simp
        omega
      have eE : E.fdiv 2 = ((ee / 2 : Nat) : Int) := by rw [hE]; exact natDiv (t := 2)
      walk_at "w"
      refine dFor_run (fun l e => ∃ (j : Nat) (x12 : Sl), e = [.val (.int n), .own .lck ((fa n).map Nf.dP), .val (.list [.tuple ((fa n).map Nf.dP), .bool (isP n.toNat)]), xd, .val (.int z4), .val (.int z5), .val (.int z6), .val (.int z7), .val (.int z8), .val (.int P), .val (.int E), .own .free ((Nf.pws (p, ee) (j + 1)).map PyData.int), x12, x13, x14, .no] ∧ freeSl (some x12) ∧ l.length + j = ee) ?_ ?_ ⟨0, _, by rw [pws_one]; rfl, f12, ?_⟩
      · rintro e ⟨j, x12, rfl, f12, hj⟩
        have hj : j = ee := by simpa using hj
        subst hj
        walk_at "w"
        refine dFor_run (fun l e => ∃ (dn rs : List Int) (x14 : Sl), e = [.val (.int n), .own .lck ((fa n).map Nf.dP), .val (.list [.tuple ((fa n).map Nf.dP), .bool (isP n.toNat)]), xd, .val (.int z4), .val (.int z5), .val (.int z6), .val (.int z7), .val (.int z8), .val (.int P), .val (.int E), .own .lck ((Nf.pws (p, j) (j + 1)).map PyData.int), x12, .own .free ((Nf.expN (Nf.dvs done) (p, j) dn.length).map PyData.int), x14, .no] ∧ freeSl (some x14) ∧ dn ++ rs = Nf.pws (p, j) (j + 1) ∧ l = rs.map PyData.int) ?_ ?_ ⟨[], _, _, rfl, f14, rfl, rfl⟩
        · rintro e ⟨dn, rs, x14, rfl, f14, hpw, hl2⟩
          have hr : rs = [] := List.map_eq_nil_iff.mp hl2.symm
          subst hr
          rw [List.append_nil] at hpw
          subst hpw
          rw [pws_len]
          walk_at "w"
          refine o_sum rfl ?_
          have eS : (Nf.pws (p, j) (j + 1)).sum = Nf.gSig (p, j) := rfl
          rw [eS]
          walk_at "w"
          refine dx_list (pws_ix ix_last (Nat.lt_succ_self j)) ?_
          walk_at "w"
          refine dx_list (pws_ix ix2 (by omega)) ?_
          walk_at "w"
          have e1 : (Nf.expN (Nf.dvs done) (p, j) (j + 1)) = Nf.dvs (done ++ [(p, j)]) := by rw [Nf.dvs_snoc]; rfl
          refine brI (fun h2 => ?_) (fun h2 => ?_)
          all_goals
            walk_at "w"
            refine dx_list (pws_ix (ix_at eE (by omega)) (by omega)) ?_
            walk_at "w"
            refine next _ ⟨done ++ [(p, j)], rest, _, _, _, _, _, _, _, _, _, _, _, _, rfl, .inr (by rw [e1]), trivial, trivial, trivial, f12, trivial, f14, by rw [Nf.prodI_snoc, h4, hE]; rfl, by rw [Nf.prodI_snoc, h5], by rw [Nf.prodI_snoc, h6]; rfl, ?_, by rw [Nf.prodI_snoc, h8]; rfl, hxs, by rw [List.append_assoc]; exact hall⟩
            rw [Nf.prodI_snoc, ← h7]
            unfold Nf.gMu
            first
              | (rw [if_pos (show j > 1 by have := of_decide_eq_true h2; omega)]; omega)
              | (rw [if_neg (show ¬ j > 1 by have := of_decide_eq_false h2; omega)]; omega)
        · rintro x xs e ⟨dn, rs, x14, rfl, f14, hpw, hl2⟩ next2
          cases rs with
          | nil => cases hl2
          | cons T rs =>
            injection hl2 with hx2 hxs2
            subst hx2
            have hT := pws_at hpw
            simp only at hT
            have hdn : dn.length ≤ j := by
              have := congrArg List.length hpw
              rw [pws_len, List.length_append, List.length_cons] at this
              omega
            have bT : Bd 40 T := by rw [hT]; exact pow_bd hy.1 (by omega) hdn
            have ln : (Nf.expN (Nf.dvs done) (p, j) dn.length).length + (Nf.dvs done).length ≤ 400000 := by
              rw [Nf.expN_len, hdv]
              have h1 : dn.length * Nf.cntN done + Nf.cntN done = Nf.cntN done * (dn.length + 1) := by grind
              have h2 : Nf.cntN done * (dn.length + 1) ≤ Nf.cntN done * (j + 1) := Nat.mul_le_mul_left _ (by omega)
              omega
            rcases hxd with rfl | rfl
            all_goals
              walk_at "w"
              walk_at "p"
              refine dComp_map (mulD T) (fun x => ∃ d ∈ Nf.dvs done, x = .int d) (isI _) (by rw [List.length_map]; exact line6 (by omega)) ?_ ?_
              · rintro _ rest2 acc ⟨d, hd, rfl⟩ hacc next3
                have j1 : IntMulOk d T := mulOk (hbd d hd) bT (by omega)
                walk_at "w"
                exact next3
              · rw [mulD_map]
                walk_at "w"
                refine o_addL (by rw [List.length_map, List.length_map, List.length_map]; exact line6 (by omega)) ?_
                rw [← List.map_append, hT, ← Nf.expN_succ]
                walk_at "w"
                refine next2 _ ⟨dn ++ [T], rs, .val (.int T), ?_, trivial, by rw [List.append_assoc]; exact hpw, hxs2⟩
                rw [List.length_append, hT]
                rfl
      · rintro x xs e ⟨j, x12, rfl, f12, hj⟩ next2
        rw [List.length_cons] at hj
        have bT : Bd 40 ((p : Int) ^ j) := pow_bd hy.1 (by omega) (by omega)
        have i1 : IntMulOk ((p : Int) ^ j) P := mulOk bT bP (by omega)
        have eT : ((p : Int) ^ j) * P = (p : Int) ^ (j + 1) := by rw [hP, Int.pow_succ]
        walk_at "w"
        refine dx_list (pws_ix ix_last (Nat.lt_succ_self j)) ?_
        walk_at "w"
        refine app_go rfl (by decide) (Nat.lt_of_le_of_lt (show _ ≤ 1000 by rw [List.length_map, pws_len]; omega) (of_decide_eq_true rfl)) ?_
        walk_at "w"
        refine next2 _ ⟨j + 1, .val x, ?_, trivial, by omega⟩
        rw [pws_succ (k := j + 1), List.map_append, ← eT]
        rfl
      · show (rngD 0 E.toNat).length + 0 = ee
        unfold rngD
        simp
        omega
end K03

set_option Elab.async false
set_option linter.all false
set_option maxRecDepth 100000
set_option maxHeartbeats 0
set_option exponentiation.threshold 4000
namespace K03
open PySem PySem.Spec PyProof.Rows L2 DL
local macro_rules | `(tactic| walk_at "bd") => `(tactic| repeat' (first
  | with_reducible assumption
  | with_reducible apply Bd.add
  | with_reducible apply Bd.sub
  | with_reducible apply Bd.mul
  | with_reducible apply Bd.neg
  | with_reducible apply Bd.fdiv
  | ((with_reducible apply Bd.fmod); (focus (first | decide | omega)))
  | with_reducible apply Bd.abs
  | exact Bd.lit (by decide) (by decide)
  | exact Bd.lit (by omega) (by omega)
  | exact Bd.lit2 (by decide) (by decide)))
local macro_rules | `(tactic| walk_at "pl") => `(tactic| first
  | with_reducible exact plN
  | ((with_reducible refine plC ?_ ?_); (focus (first | exact (show plainSl _ from True.intro) | exact (show plainSl _ from by assumption))); walk_at "pl"))
local macro_rules | `(tactic| walk_at "fl") => `(tactic| first
  | with_reducible exact flN
  | ((with_reducible refine flC ?_ ?_); (focus (first | exact (show freeSl _ from True.intro) | exact (show freeSl _ from by assumption))); walk_at "fl"))
local macro_rules | `(tactic| walk_at "s") => `(tactic| first
  | exact (show hasSl _ _ from True.intro)
  | exact (show freeSl _ from True.intro)
  | exact (show stillW _ _ from True.intro)
  | exact (show stillW _ _ from rfl)
  | exact (show freeSl _ from by assumption)
  | walk_at "pl"
  | walk_at "fl"
  | ((with_reducible apply mulR); exact Bd.lit (by decide) (by decide))
  | ((with_reducible apply mulL); exact Bd.lit (by decide) (by decide))
  | ((with_reducible apply mulOk); (focus (walk_at "bd")); (focus (walk_at "bd")); (focus (decide)))
  | exact (show CPow _ _ from ⟨by decide, by decide, by decide⟩)
  | ((with_reducible apply divOk) <;> first | decide | assumption | omega)
  | with_reducible assumption
  | exact ⟨rfl, rfl⟩
  | exact Nat.le_of_ble_eq_true rfl
  | exact of_decide_eq_true rfl
  | rfl
  | decide
  | omega)
local macro_rules | `(tactic| walk_at "ev") => `(tactic| first
  | exact ev_nil rfl
  | ((apply ev_cons); (focus (exact rfl)); (focus (conv => lhs; whnf)); walk_at "ev"))
local macro_rules | `(tactic| walk_at "bl") => `(tactic| first
  | exact bl_nil rfl
  | ((apply bl_cons); (focus (exact rfl)); (focus (conv => lhs; whnf)); walk_at "bl"))
local macro_rules | `(tactic| walk_at "gO") => `(tactic| first
  | ((with_reducible apply r_oV); (focus (walk_at "s")); walk_at "w")
  | ((with_reducible apply r_oE); (focus (exact rfl)); walk_at "w"))
local macro_rules | `(tactic| walk_at "gP") => `(tactic| first
  | ((with_reducible apply r_lend); (focus (exact rfl)); (focus (walk_at "ev")); walk_at "w")
  | ((with_reducible apply r_oP); (focus (exact rfl)); walk_at "w"))
local macro_rules | `(tactic| walk_at "gE") => `(tactic| first
  | ((with_reducible apply r_bin); walk_at "w")
  | ((with_reducible apply r_ix); walk_at "w")
  | ((with_reducible apply r_c); walk_at "w")
  | ((with_reducible apply r_vv); (focus (exact rfl)); walk_at "w")
  | ((with_reducible apply r_call); (focus (walk_at "bl")); walk_at "w")
  | ((with_reducible apply r_tup); walk_at "w")
  | ((with_reducible apply r_lst); walk_at "w")
  | ((with_reducible apply r_g); walk_at "w")
  | ((with_reducible apply r_neg); walk_at "w")
  | ((with_reducible apply r_cmp); walk_at "w")
  | ((with_reducible apply r_chain); walk_at "w")
  | ((with_reducible apply r_chain3); walk_at "w")
  | ((with_reducible apply r_isc); walk_at "w")
  | ((with_reducible apply r_and); walk_at "w")
  | ((with_reducible apply r_or); walk_at "w")
  | ((with_reducible apply r_not); walk_at "w")
  | ((with_reducible apply r_ite); walk_at "w")
  | ((with_reducible apply r_sl); walk_at "w")
  | ((with_reducible apply r_rev); walk_at "w")
  | ((with_reducible apply r_isi); walk_at "w")
  | ((with_reducible apply r_bi2); walk_at "w")
  | ((with_reducible apply r_lc); walk_at "w")
  | ((with_reducible apply r_list); walk_at "w")
  | ((with_reducible apply r_vo); (focus (exact rfl)); walk_at "w")
  | ((with_reducible apply r_vs); (focus (exact rfl)); walk_at "w")
  | ((with_reducible apply r_bi1); (focus (decide)); walk_at "w"))
local macro_rules | `(tactic| walk_at "gT") => `(tactic| first
  | ((with_reducible apply t_cmp); walk_at "w")
  | ((with_reducible apply t_and); walk_at "w")
  | ((with_reducible apply t_or); walk_at "w")
  | ((with_reducible apply t_not); walk_at "w")
  | ((with_reducible apply t_chain); walk_at "w")
  | ((with_reducible apply t_chain3); walk_at "w")
  | ((with_reducible apply t_isc); walk_at "w")
  | ((with_reducible apply t_isi); walk_at "w")
  | ((with_reducible apply t_bi1); walk_at "w")
  | ((with_reducible apply t_ix); walk_at "w")
  | ((with_reducible apply t_call); walk_at "w")
  | ((with_reducible apply t_bin); walk_at "w")
  | ((with_reducible apply t_v); (focus (exact rfl)); walk_at "w"))
local macro_rules | `(tactic| walk_at "gS") => `(tactic| first
  | ((with_reducible apply s_asg); walk_at "w")
  | ((with_reducible apply s_asgT); walk_at "w")
  | ((with_reducible apply s_par); walk_at "w")
  | ((with_reducible apply s_ex); walk_at "w")
  | ((with_reducible apply s_ite); walk_at "w")
  | ((with_reducible apply s_ret); (focus (exact rfl)); walk_at "w")
  | ((with_reducible apply s_ret0); walk_at "w")
  | ((with_reducible apply s_whl); walk_at "w")
  | ((with_reducible apply s_for); walk_at "w")
  | ((with_reducible apply s_pass); walk_at "w")
  | ((with_reducible apply s_brk); walk_at "w")
  | ((with_reducible apply s_cnt); walk_at "w")
  | ((with_reducible apply s_retV); (focus (exact rfl)); walk_at "w")
  | ((with_reducible apply s_retO); (focus (exact rfl)); walk_at "w")
  | ((with_reducible apply s_set); (focus (exact rfl)); walk_at "w")
  | ((with_reducible apply s_app); (focus (exact rfl)); walk_at "w"))
local macro_rules | `(tactic| walk_at "gSs") => `(tactic| first
  | ((with_reducible apply ss_cons); walk_at "w")
  | ((with_reducible apply ss_nil); walk_at "w"))
local macro_rules | `(tactic| walk_at "gBin") => `(tactic| first
  | ((with_reducible apply o_addI); walk_at "w")
  | ((with_reducible apply o_mulI); (focus (walk_at "s")); walk_at "w")
  | ((with_reducible apply o_subI); walk_at "w")
  | ((with_reducible apply o_fdivI); (focus (walk_at "s")); walk_at "w")
  | ((with_reducible apply o_modI); (focus (walk_at "s")); walk_at "w")
  | ((with_reducible apply o_powI); (focus (walk_at "s")); walk_at "w")
  | ((with_reducible apply o_addL); (focus (walk_at "s")); walk_at "w")
  | ((with_reducible apply o_addT); (focus (walk_at "s")); walk_at "w")
  | ((with_reducible apply o_mulT); (focus (exact ⟨(fun h => by cases h), by decide, by decide, by decide⟩)); walk_at "w")
  | ((with_reducible apply o_mulL); (focus (first | exact ⟨by decide, by decide, by decide⟩ | exact ⟨by omega, by omega, by simp; omega⟩)); walk_at "w"))
local macro_rules | `(tactic| walk_at "gCmp") => `(tactic| first
  | ((with_reducible apply o_eqI); walk_at "w")
  | ((with_reducible apply o_neI); walk_at "w")
  | ((with_reducible apply o_ltI); walk_at "w")
  | ((with_reducible apply o_leI); walk_at "w")
  | ((with_reducible apply o_gtI); walk_at "w")
  | ((with_reducible apply o_geI); walk_at "w")
  | ((with_reducible apply o_eq); (focus (walk_at "s")); walk_at "w")
  | ((with_reducible apply o_ne); (focus (walk_at "s")); walk_at "w")
  | ((with_reducible apply o_inT); (focus (walk_at "s")); walk_at "w")
  | ((with_reducible apply o_ninT); (focus (walk_at "s")); walk_at "w")
  | ((with_reducible apply o_inL); (focus (walk_at "s")); walk_at "w")
  | ((with_reducible apply o_ninL); (focus (walk_at "s")); walk_at "w"))
local macro_rules | `(tactic| walk_at "gTru") => `(tactic| first
  | ((with_reducible apply o_truB); walk_at "w")
  | ((with_reducible apply o_truI); walk_at "w")
  | ((with_reducible apply o_truL); walk_at "w")
  | ((with_reducible apply o_truT); walk_at "w")
  | ((with_reducible apply o_truN); walk_at "w"))
local macro_rules | `(tactic| walk_at "gBi1") => `(tactic| first
  | ((with_reducible apply o_lenL); walk_at "w")
  | ((with_reducible apply o_lenT); walk_at "w")
  | ((with_reducible apply o_abs); walk_at "w")
  | ((with_reducible apply o_int); walk_at "w")
  | ((with_reducible apply o_listL); walk_at "w")
  | ((with_reducible apply o_listT); walk_at "w")
  | ((with_reducible apply o_tupL); walk_at "w")
  | ((with_reducible apply o_tupT); walk_at "w"))
local macro_rules | `(tactic| walk_at "gStp") => `(tactic| first
  | ((with_reducible apply dx_list); (focus (exact rfl)); walk_at "w")
  | ((with_reducible apply dx_tup); (focus (exact rfl)); walk_at "w")
  | ((with_reducible apply ss_go); walk_at "w")
  | walk_at "k")
local macro_rules | `(tactic| walk_at "gBr") => `(tactic| first
  | ((with_reducible refine brT ?_ ?_); (focus (exact rfl)); walk_at "w")
  | ((with_reducible refine brF ?_ ?_); (focus (exact rfl)); walk_at "w"))
local macro_rules | `(tactic| walk_at "w") => `(tactic| first
  | ((with_reducible apply gO); walk_at "gO")
  | ((with_reducible apply gP); walk_at "gP")
  | ((with_reducible apply gE); walk_at "gE")
  | ((with_reducible apply r_at); (focus (walk_at "ev")); walk_at "w")
  | ((with_reducible apply r_oD); walk_at "w")
  | ((with_reducible refine And.intro ?_ ?_); (focus (walk_at "s")); walk_at "w")
  | ((with_reducible apply gSs); walk_at "gSs")
  | ((with_reducible apply gS); walk_at "gS")
  | ((with_reducible apply gT); walk_at "gT")
  | ((with_reducible apply gBin); walk_at "gBin")
  | ((with_reducible apply gCmp); walk_at "gCmp")
  | ((with_reducible apply gTru); walk_at "gTru")
  | ((with_reducible apply gBr); walk_at "gBr")
  | ((with_reducible apply gStp); walk_at "gStp")
  | ((with_reducible apply es_cons); walk_at "w")
  | ((with_reducible apply es_nil); walk_at "w")
  | ((with_reducible apply as_nil); walk_at "w")
  | ((with_reducible apply as_val); walk_at "w")
  | ((with_reducible apply as_ref); (focus (walk_at "s")); walk_at "w")
  | ((with_reducible apply gBi1); walk_at "gBi1")
  | ((with_reducible apply b_n); (focus (walk_at "s")); walk_at "w")
  | ((with_reducible apply b_t); walk_at "w")
  | ((with_reducible apply bs_cons); walk_at "w")
  | ((with_reducible apply bs_nil); walk_at "w")
  | ((with_reducible apply rs_cons); walk_at "w")
  | ((with_reducible apply rs_nil); walk_at "w")
  | ((with_reducible apply Rt_go); (focus (with_reducible assumption)); (focus (walk_at "ev")); walk_at "w")
  | ((with_reducible apply wl_succ); walk_at "w")
  | ((with_reducible apply it_e); walk_at "w")
  | ((with_reducible apply it_rng1); walk_at "w")
  | ((with_reducible apply it_rng2); walk_at "w")
  | ((with_reducible apply it_zip); walk_at "w")
  | ((with_reducible apply zip_l); walk_at "w")
  | ((with_reducible apply zip_t); walk_at "w")
  | ((with_reducible apply it_enum); walk_at "w")
  | ((with_reducible apply enu_l); walk_at "w")
  | ((with_reducible apply to_som); walk_at "w")
  | ((with_reducible apply to_non); walk_at "w")
  | ((with_reducible apply eo_som); walk_at "w")
  | ((with_reducible apply eo_non); walk_at "w")
  | ((with_reducible apply wf_cons); (focus (walk_at "s")); walk_at "w")
  | ((with_reducible apply wf_nil); (focus (walk_at "s")); walk_at "w")
  | ((with_reducible apply wc_cons); (focus (walk_at "s")); walk_at "w")
  | ((with_reducible apply wc_nil); (focus (walk_at "s")); walk_at "w")
  | ((with_reducible apply r_lstS); (focus (exact rfl)); walk_at "w")
  | ((with_reducible apply r_lstN); (focus (exact rfl)); walk_at "w")
  | ((with_reducible apply o_isNN); walk_at "w")
  | ((with_reducible apply o_isN); (focus (exact rfl)); walk_at "w")
  | ((with_reducible apply o_isB); walk_at "w")
  | ((with_reducible apply o_max2); walk_at "w")
  | ((with_reducible apply o_min2); walk_at "w")
  | ((with_reducible apply o_slL); walk_at "w")
  | ((with_reducible apply o_slT); walk_at "w")
  | ((with_reducible apply o_revL); walk_at "w")
  | ((with_reducible apply set_go); (focus (exact rfl)); (focus (decide)); (focus (exact rfl)); walk_at "w")
  | ((with_reducible apply app_go); (focus (exact rfl)); (focus (decide)); (focus (walk_at "s")); walk_at "w")
  | skip)
local macro_rules | `(tactic| walk_at "f") => `(tactic| (conv => whnf); first
  | exact True.intro
  | ((refine And.intro True.intro ?_); walk_at "f"))
local macro_rules | `(tactic| walk_at "c") => `(tactic| (apply enterR); (focus (exact rfl)); (focus (walk_at "f")); (focus (walk_at "ev")); (focus ((intro R hR); walk_at "w")))
local macro_rules | `(tactic| walk_at "o") => `(tactic| (first | with_reducible apply wc_openI | with_reducible apply wc_openV | with_reducible apply wf_openI | with_reducible apply wf_openV); (focus (walk_at "ev")); walk_at "w")
local macro_rules | `(tactic| walk_at "p") => `(tactic| (first | with_reducible apply wc_keepI | with_reducible apply wc_keepV | with_reducible apply wf_keepI | with_reducible apply wf_keepV); (focus (walk_at "ev")))
local macro_rules | `(tactic| walk_at "k") => `(tactic| fail "no spec")
local macro_rules | `(tactic| walk_at "lx") => `(tactic| first
  | exact lv_nil rfl
  | ((apply lv_cons); (focus (exact rfl)); (focus (conv => lhs; whnf)); walk_at "lx"))
local macro_rules | `(tactic| walk_at "oo") => `(tactic| (first | with_reducible apply wc_openLI | with_reducible apply wc_openLV | with_reducible apply wf_openLI | with_reducible apply wf_openLV); (focus (walk_at "ev")); (focus (walk_at "lx")); walk_at "w")
local macro_rules | `(tactic| walk_at "uO") => `(tactic| first
  | ((with_reducible apply r_oV); (focus (walk_at "s")); walk_at "u")
  | ((with_reducible apply r_oE); (focus (exact rfl)); walk_at "u"))
local macro_rules | `(tactic| walk_at "uP") => `(tactic| first
  | ((with_reducible apply r_lend); (focus (exact rfl)); (focus (walk_at "ev")); walk_at "u")
  | ((with_reducible apply r_oP); (focus (exact rfl)); walk_at "u"))
local macro_rules | `(tactic| walk_at "uE") => `(tactic| first
  | ((with_reducible apply r_bin); walk_at "u")
  | ((with_reducible apply r_ix); walk_at "u")
  | ((with_reducible apply r_c); walk_at "u")
  | ((with_reducible apply r_vv); (focus (exact rfl)); walk_at "u")
  | ((with_reducible apply r_call); (focus (walk_at "bl")); walk_at "u")
  | ((with_reducible apply r_tup); walk_at "u")
  | ((with_reducible apply r_lst); walk_at "u")
  | ((with_reducible apply r_g); walk_at "u")
  | ((with_reducible apply r_neg); walk_at "u")
  | ((with_reducible apply r_cmp); walk_at "u")
  | ((with_reducible apply r_chain); walk_at "u")
  | ((with_reducible apply r_chain3); walk_at "u")
  | ((with_reducible apply r_isc); walk_at "u")
  | ((with_reducible apply r_and); walk_at "u")
  | ((with_reducible apply r_or); walk_at "u")
  | ((with_reducible apply r_not); walk_at "u")
  | ((with_reducible apply r_ite); walk_at "u")
  | ((with_reducible apply r_sl); walk_at "u")
  | ((with_reducible apply r_rev); walk_at "u")
  | ((with_reducible apply r_isi); walk_at "u")
  | ((with_reducible apply r_bi2); walk_at "u")
  | ((with_reducible apply r_lc); walk_at "u")
  | ((with_reducible apply r_list); walk_at "u")
  | ((with_reducible apply r_vo); (focus (exact rfl)); walk_at "u")
  | ((with_reducible apply r_vs); (focus (exact rfl)); walk_at "u")
  | ((with_reducible apply r_bi1); (focus (decide)); walk_at "u"))
local macro_rules | `(tactic| walk_at "uT") => `(tactic| first
  | ((with_reducible apply t_cmp); walk_at "u")
  | ((with_reducible apply t_and); walk_at "u")
  | ((with_reducible apply t_or); walk_at "u")
  | ((with_reducible apply t_not); walk_at "u")
  | ((with_reducible apply t_chain); walk_at "u")
  | ((with_reducible apply t_chain3); walk_at "u")
  | ((with_reducible apply t_isc); walk_at "u")
  | ((with_reducible apply t_isi); walk_at "u")
  | ((with_reducible apply t_bi1); walk_at "u")
  | ((with_reducible apply t_ix); walk_at "u")
  | ((with_reducible apply t_call); walk_at "u")
  | ((with_reducible apply t_bin); walk_at "u")
  | ((with_reducible apply t_v); (focus (exact rfl)); walk_at "u"))
local macro_rules | `(tactic| walk_at "uS") => `(tactic| first
  | ((with_reducible apply s_asg); walk_at "u")
  | ((with_reducible apply s_asgT); walk_at "u")
  | ((with_reducible apply s_par); walk_at "u")
  | ((with_reducible apply s_ex); walk_at "u")
  | ((with_reducible apply s_ite); walk_at "u")
  | ((with_reducible apply s_ret); (focus (exact rfl)); walk_at "u")
  | ((with_reducible apply s_ret0); walk_at "u")
  | ((with_reducible apply s_whl); walk_at "u")
  | ((with_reducible apply s_for); walk_at "u")
  | ((with_reducible apply s_pass); walk_at "u")
  | ((with_reducible apply s_brk); walk_at "u")
  | ((with_reducible apply s_cnt); walk_at "u")
  | ((with_reducible apply s_retV); (focus (exact rfl)); walk_at "u")
  | ((with_reducible apply s_retO); (focus (exact rfl)); walk_at "u")
  | ((with_reducible apply s_set); (focus (exact rfl)); walk_at "u")
  | ((with_reducible apply s_app); (focus (exact rfl)); walk_at "u"))
local macro_rules | `(tactic| walk_at "uSs") => `(tactic| first
  | ((with_reducible apply ss_cons); walk_at "u")
  | ((with_reducible apply ss_nil); walk_at "u"))
local macro_rules | `(tactic| walk_at "uBin") => `(tactic| first
  | ((with_reducible apply o_addI); walk_at "u")
  | ((with_reducible apply o_mulI); (focus (walk_at "s")); walk_at "u")
  | ((with_reducible apply o_subI); walk_at "u")
  | ((with_reducible apply o_fdivI); (focus (walk_at "s")); walk_at "u")
  | ((with_reducible apply o_modI); (focus (walk_at "s")); walk_at "u")
  | ((with_reducible apply o_powI); (focus (walk_at "s")); walk_at "u")
  | ((with_reducible apply o_addL); (focus (walk_at "s")); walk_at "u")
  | ((with_reducible apply o_addT); (focus (walk_at "s")); walk_at "u")
  | ((with_reducible apply o_mulT); (focus (exact ⟨(fun h => by cases h), by decide, by decide, by decide⟩)); walk_at "u")
  | ((with_reducible apply o_mulL); (focus (first | exact ⟨by decide, by decide, by decide⟩ | exact ⟨by omega, by omega, by simp; omega⟩)); walk_at "u"))
local macro_rules | `(tactic| walk_at "uCmp") => `(tactic| first
  | ((with_reducible apply o_eqI); walk_at "u")
  | ((with_reducible apply o_neI); walk_at "u")
  | ((with_reducible apply o_ltI); walk_at "u")
  | ((with_reducible apply o_leI); walk_at "u")
  | ((with_reducible apply o_gtI); walk_at "u")
  | ((with_reducible apply o_geI); walk_at "u")
  | ((with_reducible apply o_eq); (focus (walk_at "s")); walk_at "u")
  | ((with_reducible apply o_ne); (focus (walk_at "s")); walk_at "u")
  | ((with_reducible apply o_inT); (focus (walk_at "s")); walk_at "u")
  | ((with_reducible apply o_ninT); (focus (walk_at "s")); walk_at "u")
  | ((with_reducible apply o_inL); (focus (walk_at "s")); walk_at "u")
  | ((with_reducible apply o_ninL); (focus (walk_at "s")); walk_at "u"))
local macro_rules | `(tactic| walk_at "uTru") => `(tactic| first
  | ((with_reducible apply o_truB); walk_at "u")
  | ((with_reducible apply o_truI); walk_at "u")
  | ((with_reducible apply o_truL); walk_at "u")
  | ((with_reducible apply o_truT); walk_at "u")
  | ((with_reducible apply o_truN); walk_at "u"))
local macro_rules | `(tactic| walk_at "uBi1") => `(tactic| first
  | ((with_reducible apply o_lenL); walk_at "u")
  | ((with_reducible apply o_lenT); walk_at "u")
  | ((with_reducible apply o_abs); walk_at "u")
  | ((with_reducible apply o_int); walk_at "u")
  | ((with_reducible apply o_listL); walk_at "u")
  | ((with_reducible apply o_listT); walk_at "u")
  | ((with_reducible apply o_tupL); walk_at "u")
  | ((with_reducible apply o_tupT); walk_at "u"))
local macro_rules | `(tactic| walk_at "uStp") => `(tactic| first
  | ((with_reducible apply dx_list); (focus (exact rfl)); walk_at "u")
  | ((with_reducible apply dx_tup); (focus (exact rfl)); walk_at "u")
  | walk_at "ku")
local macro_rules | `(tactic| walk_at "uBr") => `(tactic| first
  | ((with_reducible refine brT ?_ ?_); (focus (exact rfl)); walk_at "u")
  | ((with_reducible refine brF ?_ ?_); (focus (exact rfl)); walk_at "u"))
local macro_rules | `(tactic| walk_at "u") => `(tactic| first
  | ((with_reducible apply gO); walk_at "uO")
  | ((with_reducible apply gP); walk_at "uP")
  | ((with_reducible apply gE); walk_at "uE")
  | ((with_reducible apply r_at); (focus (walk_at "ev")); walk_at "u")
  | ((with_reducible apply r_oD); walk_at "u")
  | ((with_reducible refine And.intro ?_ ?_); (focus (walk_at "s")); walk_at "u")
  | ((with_reducible apply gSs); walk_at "uSs")
  | ((with_reducible apply gS); walk_at "uS")
  | ((with_reducible apply gT); walk_at "uT")
  | ((with_reducible apply gBin); walk_at "uBin")
  | ((with_reducible apply gCmp); walk_at "uCmp")
  | ((with_reducible apply gTru); walk_at "uTru")
  | ((with_reducible apply gBr); walk_at "uBr")
  | ((with_reducible apply gStp); walk_at "uStp")
  | ((with_reducible apply es_cons); walk_at "u")
  | ((with_reducible apply es_nil); walk_at "u")
  | ((with_reducible apply as_nil); walk_at "u")
  | ((with_reducible apply as_val); walk_at "u")
  | ((with_reducible apply as_ref); (focus (walk_at "s")); walk_at "u")
  | ((with_reducible apply gBi1); walk_at "uBi1")
  | ((with_reducible apply b_n); (focus (walk_at "s")); walk_at "u")
  | ((with_reducible apply b_t); walk_at "u")
  | ((with_reducible apply bs_cons); walk_at "u")
  | ((with_reducible apply bs_nil); walk_at "u")
  | ((with_reducible apply rs_cons); walk_at "u")
  | ((with_reducible apply rs_nil); walk_at "u")
  | ((with_reducible apply Rt_go); (focus (with_reducible assumption)); (focus (walk_at "ev")); walk_at "u")
  | ((with_reducible apply wl_succ); walk_at "u")
  | ((with_reducible apply it_e); walk_at "u")
  | ((with_reducible apply it_rng1); walk_at "u")
  | ((with_reducible apply it_rng2); walk_at "u")
  | ((with_reducible apply it_zip); walk_at "u")
  | ((with_reducible apply zip_l); walk_at "u")
  | ((with_reducible apply zip_t); walk_at "u")
  | ((with_reducible apply it_enum); walk_at "u")
  | ((with_reducible apply enu_l); walk_at "u")
  | ((with_reducible apply to_som); walk_at "u")
  | ((with_reducible apply to_non); walk_at "u")
  | ((with_reducible apply eo_som); walk_at "u")
  | ((with_reducible apply eo_non); walk_at "u")
  | ((with_reducible apply wf_cons); (focus (walk_at "s")); walk_at "u")
  | ((with_reducible apply wf_nil); (focus (walk_at "s")); walk_at "u")
  | ((with_reducible apply wc_cons); (focus (walk_at "s")); walk_at "u")
  | ((with_reducible apply wc_nil); (focus (walk_at "s")); walk_at "u")
  | ((with_reducible apply r_lstS); (focus (exact rfl)); walk_at "u")
  | ((with_reducible apply r_lstN); (focus (exact rfl)); walk_at "u")
  | ((with_reducible apply o_isNN); walk_at "u")
  | ((with_reducible apply o_isN); (focus (exact rfl)); walk_at "u")
  | ((with_reducible apply o_isB); walk_at "u")
  | ((with_reducible apply o_max2); walk_at "u")
  | ((with_reducible apply o_min2); walk_at "u")
  | ((with_reducible apply o_slL); walk_at "u")
  | ((with_reducible apply o_slT); walk_at "u")
  | ((with_reducible apply o_revL); walk_at "u")
  | ((with_reducible apply set_go); (focus (exact rfl)); (focus (decide)); (focus (exact rfl)); walk_at "u")
  | ((with_reducible apply app_go); (focus (exact rfl)); (focus (decide)); (focus (walk_at "s")); walk_at "u")
  | skip)
local macro_rules | `(tactic| walk_at "ku") => `(tactic| fail "no spec")
local macro_rules | `(tactic| walk_at "a") => `(tactic| (with_reducible apply ss_go); (with_reducible apply ss_cons); (with_reducible apply s_asg))
local macro_rules | `(tactic| walk_at "cu") => `(tactic| (apply enterR); (focus (exact rfl)); (focus (walk_at "f")); (focus (walk_at "ev")); (focus ((intro R hR); walk_at "u")))
local macro_rules | `(tactic| walk_at "s1") => `(tactic| (with_reducible apply ss_go); (with_reducible apply ss_cons))
theorem any_ints {l : List Int} : Any 2 (.tuple (l.map PyData.int)) := Any.tup fun y hy => by
  obtain ⟨d, -, rfl⟩ := List.mem_map.mp hy
  exact Any.int _
theorem gcd_cop {a b : Int} (ha : 1 ≤ a) (hb : 1 ≤ b) (h : ¬ ((Int.gcd a b : Nat) : Int) > 1) : Nat.Coprime a.toNat b.toNat := by
  have e : Int.gcd a b = Nat.gcd a.toNat b.toNat := by
    have e1 : a = (a.toNat : Int) := by omega
    have e2 : b = (b.toNat : Int) := by omega
    conv => lhs; rw [e1, e2]
    exact Int.gcd_natCast_natCast ..
  rw [e] at h
  have : 0 < Nat.gcd a.toNat b.toNat := Nat.gcd_pos_of_pos_left _ (by omega)
  show Nat.gcd _ _ = 1
  omega
theorem sp_law_products_right {k : Nat} (hk : 12 ≤ k) {s : List D} (hc : Cup s) {Q : Sl → List Sl → Prop} (hQ : ∀ s' : List D, Cup s' → Q (.val (.bool true)) [.own .bor s']) : stp (wCall fns k 26 [.own .bor s] Q) := by
  obtain ⟨k, rfl⟩ := Nat.exists_eq_add_of_le' hk
  walk_at "c"
  refine sp_roll (by omega) hc (by omega) (by omega) fun s1 a c1 a0 a1 => ?_
  walk_at "w"
  refine sp_roll (by omega) c1 (by omega) (by omega) fun s2 b c2 b0 b1 => ?_
  walk_at "w"
  refine sp_law_divisor (by omega) ?_
  generalize hA : 1 + a = A at *
  generalize hB : 1 + b = B at *
  walk_at "w"
  refine brI (fun h => ?_) (fun h => ?_)
  · walk_at "w"
    exact hQ _ c2
  · have cop := gcd_cop (a := A) (b := B) (by omega) (by omega) (of_decide_eq_false h)
    have hAB : 1 * 1 ≤ A * B := Int.mul_le_mul (by omega) (by omega) (by omega) (by omega)
    have hAB2 : A * B ≤ 1000 * 1000 := Int.mul_le_mul (by omega) (by omega) (by omega) (by omega)
    have bA : Bd 64 A := .of (by omega)
    have bB : Bd 64 B := .of (by omega)
    have i0 : IntMulOk A B := mulOk bA bB (by omega)
    have nA : Nm A := ⟨by omega, by omega⟩
    have nB : Nm B := ⟨by omega, by omega⟩
    have nC : Nm (A * B) := ⟨by omega, by omega⟩
    have eC : (A * B).toNat = A.toNat * B.toNat := by
      have e1 : A = (A.toNat : Int) := by omega
      have e2 : B = (B.toNat : Int) := by omega
      conv => lhs; rw [e1, e2, ← Int.natCast_mul]
      exact Int.toNat_natCast _
    have perm : (fa A ++ fa B).Perm (fa (A * B)) := by
      have := Nf.fac_mul (m := A.toNat) (n := B.toNat) (by omega) (by omega) nA.le nB.le (by rw [← eC]; exact nC.le) cop
      rw [← eC] at this
      exact this
    have mul : ∀ g : Nat × Nat → Int, Nf.prodI g (fa (A * B)) = Nf.prodI g (fa A) * Nf.prodI g (fa B) := fun g => by
      rw [← Nf.prodI_perm perm, Nf.prodI_append]
    have pA := Pt.of nA (d := fa A) (r := []) (List.append_nil _)
    have pB := Pt.of nB (d := fa B) (r := []) (List.append_nil _)
    have sgA : Bd 1700 (Nf.prodI Nf.gSig (fa A)) := (prod_bd _ fun x hx => sig_bd (pA.al x hx).1 (pA.al x hx).2.1).mono (by have := pA.len; omega)
    have sgB : Bd 1700 (Nf.prodI Nf.gSig (fa B)) := (prod_bd _ fun x hx => sig_bd (pB.al x hx).1 (pB.al x hx).2.1).mono (by have := pB.len; omega)
    have i1 : IntMulOk (Nf.prodI Nf.gCnt (fa A)) (Nf.prodI Nf.gCnt (fa B)) := mulOk (pA.bd fun x hx => cnt_bd hx.2.1) (pB.bd fun x hx => cnt_bd hx.2.1) (by omega)
    have i2 : IntMulOk (Nf.prodI Nf.gSig (fa A)) (Nf.prodI Nf.gSig (fa B)) := mulOk sgA sgB (by omega)
    have i3 : IntMulOk (Nf.prodI Nf.gPhi (fa A)) (Nf.prodI Nf.gPhi (fa B)) := mulOk (pA.bd fun x hx => phi_bd hx.1) (pB.bd fun x hx => phi_bd hx.1) (by omega)
    have i4 : IntMulOk (Nf.prodI Nf.gMu (fa A)) (Nf.prodI Nf.gMu (fa B)) := mulOk (pA.bd fun x hx => mu_bd) (pB.bd fun x hx => mu_bd) (by omega)
    have ln : ((fa A).map Nf.dP).length + ((fa B).map Nf.dP).length ≤ sizeLine := by
      rw [List.length_map, List.length_map]
      have := pA.len
      have := pB.len
      exact line6 (by omega)
    have aT : Any 3 (.list [.int (Nf.prodI Nf.gCnt (fa A) * Nf.prodI Nf.gCnt (fa B)), .int (Nf.prodI Nf.gSig (fa A) * Nf.prodI Nf.gSig (fa B)), .int (Nf.prodI Nf.gPhi (fa A) * Nf.prodI Nf.gPhi (fa B)), .int (Nf.prodI Nf.gMu (fa A) * Nf.prodI Nf.gMu (fa B)), .tuple ((fa (A * B)).map Nf.dP)]) := Any.list fun x hx => by
      simp only [List.mem_cons, List.not_mem_nil, or_false] at hx
      rcases hx with rfl | rfl | rfl | rfl | rfl
      · exact Any.int _
      · exact Any.int _
      · exact Any.int _
      · exact Any.int _
      · exact any_dPt
    have sh := aT.lay
    walk_at "w"
    refine sp_count_divisors (by omega) nC ?_
    walk_at "w"
    refine sp_sum_of_divisors (by omega) nC ?_
    walk_at "w"
    refine sp_totient_of (by omega) nC ?_
    walk_at "w"
    refine sp_moebius_of (by omega) nC ?_
    walk_at "w"
    refine sp_factors_of (by omega) nC ?_
    walk_at "w"
    refine sp_count_divisors (by omega) nA ?_
    walk_at "w"
    refine sp_count_divisors (by omega) nB ?_
    walk_at "w"
    refine sp_sum_of_divisors (by omega) nA ?_
    walk_at "w"
    refine sp_sum_of_divisors (by omega) nB ?_
    walk_at "w"
    refine sp_totient_of (by omega) nA ?_
    walk_at "w"
    refine sp_totient_of (by omega) nB ?_
    walk_at "w"
    refine sp_moebius_of (by omega) nA ?_
    walk_at "w"
    refine sp_moebius_of (by omega) nB ?_
    walk_at "w"
    refine sp_factors_of (by omega) nA ?_
    walk_at "w"
    refine sp_factors_of (by omega) nB ?_
    walk_at "w"
    rw [← List.map_append]
    refine sort_dPT perm nC.fc.so ?_
    walk_at "w"
    refine sp_same (by rw [mul, mul, mul, mul]) aT.lay (Nat.le_trans aT.dep (by decide)) (by omega) ?_
    walk_at "w"
    exact hQ _ c2
end K03

set_option Elab.async false
set_option linter.all false
set_option maxRecDepth 100000
set_option maxHeartbeats 0
set_option exponentiation.threshold 4000
namespace K03
open PySem PySem.Spec PyProof.Rows L2 DL
local macro_rules | `(tactic| walk_at "bd") => `(tactic| repeat' (first
  | with_reducible assumption
  | with_reducible apply Bd.add
  | with_reducible apply Bd.sub
  | with_reducible apply Bd.mul
  | with_reducible apply Bd.neg
  | with_reducible apply Bd.fdiv
  | ((with_reducible apply Bd.fmod); (focus (first | decide | omega)))
  | with_reducible apply Bd.abs
  | exact Bd.lit (by decide) (by decide)
  | exact Bd.lit (by omega) (by omega)
  | exact Bd.lit2 (by decide) (by decide)))
local macro_rules | `(tactic| walk_at "pl") => `(tactic| first
  | with_reducible exact plN
  | ((with_reducible refine plC ?_ ?_); (focus (first | exact (show plainSl _ from True.intro) | exact (show plainSl _ from by assumption))); walk_at "pl"))
local macro_rules | `(tactic| walk_at "fl") => `(tactic| first
  | with_reducible exact flN
  | ((with_reducible refine flC ?_ ?_); (focus (first | exact (show freeSl _ from True.intro) | exact (show freeSl _ from by assumption))); walk_at "fl"))
local macro_rules | `(tactic| walk_at "s") => `(tactic| first
  | exact (show hasSl _ _ from True.intro)
  | exact (show freeSl _ from True.intro)
  | exact (show stillW _ _ from True.intro)
  | exact (show stillW _ _ from rfl)
  | exact (show freeSl _ from by assumption)
  | walk_at "pl"
  | walk_at "fl"
  | ((with_reducible apply mulR); exact Bd.lit (by decide) (by decide))
  | ((with_reducible apply mulL); exact Bd.lit (by decide) (by decide))
  | ((with_reducible apply mulOk); (focus (walk_at "bd")); (focus (walk_at "bd")); (focus (decide)))
  | exact (show CPow _ _ from ⟨by decide, by decide, by decide⟩)
  | ((with_reducible apply divOk) <;> first | decide | assumption | omega)
  | with_reducible assumption
  | exact ⟨rfl, rfl⟩
  | exact Nat.le_of_ble_eq_true rfl
  | exact of_decide_eq_true rfl
  | rfl
  | decide
  | omega)
local macro_rules | `(tactic| walk_at "ev") => `(tactic| first
  | exact ev_nil rfl
  | ((apply ev_cons); (focus (exact rfl)); (focus (conv => lhs; whnf)); walk_at "ev"))
local macro_rules | `(tactic| walk_at "bl") => `(tactic| first
  | exact bl_nil rfl
  | ((apply bl_cons); (focus (exact rfl)); (focus (conv => lhs; whnf)); walk_at "bl"))
local macro_rules | `(tactic| walk_at "gO") => `(tactic| first
  | ((with_reducible apply r_oV); (focus (walk_at "s")); walk_at "w")
  | ((with_reducible apply r_oE); (focus (exact rfl)); walk_at "w"))
local macro_rules | `(tactic| walk_at "gP") => `(tactic| first
  | ((with_reducible apply r_lend); (focus (exact rfl)); (focus (walk_at "ev")); walk_at "w")
  | ((with_reducible apply r_oP); (focus (exact rfl)); walk_at "w"))
local macro_rules | `(tactic| walk_at "gE") => `(tactic| first
  | ((with_reducible apply r_bin); walk_at "w")
  | ((with_reducible apply r_ix); walk_at "w")
  | ((with_reducible apply r_c); walk_at "w")
  | ((with_reducible apply r_vv); (focus (exact rfl)); walk_at "w")
  | ((with_reducible apply r_call); (focus (walk_at "bl")); walk_at "w")
  | ((with_reducible apply r_tup); walk_at "w")
  | ((with_reducible apply r_lst); walk_at "w")
  | ((with_reducible apply r_g); walk_at "w")
  | ((with_reducible apply r_neg); walk_at "w")
  | ((with_reducible apply r_cmp); walk_at "w")
  | ((with_reducible apply r_chain); walk_at "w")
  | ((with_reducible apply r_chain3); walk_at "w")
  | ((with_reducible apply r_isc); walk_at "w")
  | ((with_reducible apply r_and); walk_at "w")
  | ((with_reducible apply r_or); walk_at "w")
  | ((with_reducible apply r_not); walk_at "w")
  | ((with_reducible apply r_ite); walk_at "w")
  | ((with_reducible apply r_sl); walk_at "w")
  | ((with_reducible apply r_rev); walk_at "w")
  | ((with_reducible apply r_isi); walk_at "w")
  | ((with_reducible apply r_bi2); walk_at "w")
  | ((with_reducible apply r_lc); walk_at "w")
  | ((with_reducible apply r_list); walk_at "w")
  | ((with_reducible apply r_vo); (focus (exact rfl)); walk_at "w")
  | ((with_reducible apply r_vs); (focus (exact rfl)); walk_at "w")
  | ((with_reducible apply r_bi1); (focus (decide)); walk_at "w"))
local macro_rules | `(tactic| walk_at "gT") => `(tactic| first
  | ((with_reducible apply t_cmp); walk_at "w")
  | ((with_reducible apply t_and); walk_at "w")
  | ((with_reducible apply t_or); walk_at "w")
  | ((with_reducible apply t_not); walk_at "w")
  | ((with_reducible apply t_chain); walk_at "w")
  | ((with_reducible apply t_chain3); walk_at "w")
  | ((with_reducible apply t_isc); walk_at "w")
  | ((with_reducible apply t_isi); walk_at "w")
  | ((with_reducible apply t_bi1); walk_at "w")
  | ((with_reducible apply t_ix); walk_at "w")
  | ((with_reducible apply t_call); walk_at "w")
  | ((with_reducible apply t_bin); walk_at "w")
  | ((with_reducible apply t_v); (focus (exact rfl)); walk_at "w"))
local macro_rules | `(tactic| walk_at "gS") => `(tactic| first
  | ((with_reducible apply s_asg); walk_at "w")
  | ((with_reducible apply s_asgT); walk_at "w")
  | ((with_reducible apply s_par); walk_at "w")
  | ((with_reducible apply s_ex); walk_at "w")
  | ((with_reducible apply s_ite); walk_at "w")
  | ((with_reducible apply s_ret); (focus (exact rfl)); walk_at "w")
  | ((with_reducible apply s_ret0); walk_at "w")
  | ((with_reducible apply s_whl); walk_at "w")
  | ((with_reducible apply s_for); walk_at "w")
  | ((with_reducible apply s_pass); walk_at "w")
  | ((with_reducible apply s_brk); walk_at "w")
  | ((with_reducible apply s_cnt); walk_at "w")
  | ((with_reducible apply s_retV); (focus (exact rfl)); walk_at "w")
  | ((with_reducible apply s_retO); (focus (exact rfl)); walk_at "w")
  | ((with_reducible apply s_set); (focus (exact rfl)); walk_at "w")
  | ((with_reducible apply s_app); (focus (exact rfl)); walk_at "w"))
local macro_rules | `(tactic| walk_at "gSs") => `(tactic| first
  | ((with_reducible apply ss_cons); walk_at "w")
  | ((with_reducible apply ss_nil); walk_at "w"))
local macro_rules | `(tactic| walk_at "gBin") => `(tactic| first
  | ((with_reducible apply o_addI); walk_at "w")
  | ((with_reducible apply o_mulI); (focus (walk_at "s")); walk_at "w")
  | ((with_reducible apply o_subI); walk_at "w")
  | ((with_reducible apply o_fdivI); (focus (walk_at "s")); walk_at "w")
  | ((with_reducible apply o_modI); (focus (walk_at "s")); walk_at "w")
  | ((with_reducible apply o_powI); (focus (walk_at "s")); walk_at "w")
  | ((with_reducible apply o_addL); (focus (walk_at "s")); walk_at "w")
  | ((with_reducible apply o_addT); (focus (walk_at "s")); walk_at "w")
  | ((with_reducible apply o_mulT); (focus (exact ⟨(fun h => by cases h), by decide, by decide, by decide⟩)); walk_at "w")
  | ((with_reducible apply o_mulL); (focus (first | exact ⟨by decide, by decide, by decide⟩ | exact ⟨by omega, by omega, by simp; omega⟩)); walk_at "w"))
local macro_rules | `(tactic| walk_at "gCmp") => `(tactic| first
  | ((with_reducible apply o_eqI); walk_at "w")
  | ((with_reducible apply o_neI); walk_at "w")
  | ((with_reducible apply o_ltI); walk_at "w")
  | ((with_reducible apply o_leI); walk_at "w")
  | ((with_reducible apply o_gtI); walk_at "w")
  | ((with_reducible apply o_geI); walk_at "w")
  | ((with_reducible apply o_eq); (focus (walk_at "s")); walk_at "w")
  | ((with_reducible apply o_ne); (focus (walk_at "s")); walk_at "w")
  | ((with_reducible apply o_inT); (focus (walk_at "s")); walk_at "w")
  | ((with_reducible apply o_ninT); (focus (walk_at "s")); walk_at "w")
  | ((with_reducible apply o_inL); (focus (walk_at "s")); walk_at "w")
  | ((with_reducible apply o_ninL); (focus (walk_at "s")); walk_at "w"))
local macro_rules | `(tactic| walk_at "gTru") => `(tactic| first
  | ((with_reducible apply o_truB); walk_at "w")
  | ((with_reducible apply o_truI); walk_at "w")
  | ((with_reducible apply o_truL); walk_at "w")
  | ((with_reducible apply o_truT); walk_at "w")
  | ((with_reducible apply o_truN); walk_at "w"))
local macro_rules | `(tactic| walk_at "gBi1") => `(tactic| first
  | ((with_reducible apply o_lenL); walk_at "w")
  | ((with_reducible apply o_lenT); walk_at "w")
  | ((with_reducible apply o_abs); walk_at "w")
  | ((with_reducible apply o_int); walk_at "w")
  | ((with_reducible apply o_listL); walk_at "w")
  | ((with_reducible apply o_listT); walk_at "w")
  | ((with_reducible apply o_tupL); walk_at "w")
  | ((with_reducible apply o_tupT); walk_at "w"))
local macro_rules | `(tactic| walk_at "gStp") => `(tactic| first
  | ((with_reducible apply dx_list); (focus (exact rfl)); walk_at "w")
  | ((with_reducible apply dx_tup); (focus (exact rfl)); walk_at "w")
  | ((with_reducible apply ss_go); walk_at "w")
  | walk_at "k")
local macro_rules | `(tactic| walk_at "gBr") => `(tactic| first
  | ((with_reducible refine brT ?_ ?_); (focus (exact rfl)); walk_at "w")
  | ((with_reducible refine brF ?_ ?_); (focus (exact rfl)); walk_at "w"))
local macro_rules | `(tactic| walk_at "w") => `(tactic| first
  | ((with_reducible apply gO); walk_at "gO")
  | ((with_reducible apply gP); walk_at "gP")
  | ((with_reducible apply gE); walk_at "gE")
  | ((with_reducible apply r_at); (focus (walk_at "ev")); walk_at "w")
  | ((with_reducible apply r_oD); walk_at "w")
  | ((with_reducible refine And.intro ?_ ?_); (focus (walk_at "s")); walk_at "w")
  | ((with_reducible apply gSs); walk_at "gSs")
  | ((with_reducible apply gS); walk_at "gS")
  | ((with_reducible apply gT); walk_at "gT")
  | ((with_reducible apply gBin); walk_at "gBin")
  | ((with_reducible apply gCmp); walk_at "gCmp")
  | ((with_reducible apply gTru); walk_at "gTru")
  | ((with_reducible apply gBr); walk_at "gBr")
  | ((with_reducible apply gStp); walk_at "gStp")
  | ((with_reducible apply es_cons); walk_at "w")
  | ((with_reducible apply es_nil); walk_at "w")
  | ((with_reducible apply as_nil); walk_at "w")
  | ((with_reducible apply as_val); walk_at "w")
  | ((with_reducible apply as_ref); (focus (walk_at "s")); walk_at "w")
  | ((with_reducible apply gBi1); walk_at "gBi1")
  | ((with_reducible apply b_n); (focus (walk_at "s")); walk_at "w")
  | ((with_reducible apply b_t); walk_at "w")
  | ((with_reducible apply bs_cons); walk_at "w")
  | ((with_reducible apply bs_nil); walk_at "w")
  | ((with_reducible apply rs_cons); walk_at "w")
  | ((with_reducible apply rs_nil); walk_at "w")
  | ((with_reducible apply Rt_go); (focus (with_reducible assumption)); (focus (walk_at "ev")); walk_at "w")
  | ((with_reducible apply wl_succ); walk_at "w")
  | ((with_reducible apply it_e); walk_at "w")
  | ((with_reducible apply it_rng1); walk_at "w")
  | ((with_reducible apply it_rng2); walk_at "w")
  | ((with_reducible apply it_zip); walk_at "w")
  | ((with_reducible apply zip_l); walk_at "w")
  | ((with_reducible apply zip_t); walk_at "w")
  | ((with_reducible apply it_enum); walk_at "w")
  | ((with_reducible apply enu_l); walk_at "w")
  | ((with_reducible apply to_som); walk_at "w")
  | ((with_reducible apply to_non); walk_at "w")
  | ((with_reducible apply eo_som); walk_at "w")
  | ((with_reducible apply eo_non); walk_at "w")
  | ((with_reducible apply wf_cons); (focus (walk_at "s")); walk_at "w")
  | ((with_reducible apply wf_nil); (focus (walk_at "s")); walk_at "w")
  | ((with_reducible apply wc_cons); (focus (walk_at "s")); walk_at "w")
  | ((with_reducible apply wc_nil); (focus (walk_at "s")); walk_at "w")
  | ((with_reducible apply r_lstS); (focus (exact rfl)); walk_at "w")
  | ((with_reducible apply r_lstN); (focus (exact rfl)); walk_at "w")
  | ((with_reducible apply o_isNN); walk_at "w")
  | ((with_reducible apply o_isN); (focus (exact rfl)); walk_at "w")
  | ((with_reducible apply o_isB); walk_at "w")
  | ((with_reducible apply o_max2); walk_at "w")
  | ((with_reducible apply o_min2); walk_at "w")
  | ((with_reducible apply o_slL); walk_at "w")
  | ((with_reducible apply o_slT); walk_at "w")
  | ((with_reducible apply o_revL); walk_at "w")
  | ((with_reducible apply set_go); (focus (exact rfl)); (focus (decide)); (focus (exact rfl)); walk_at "w")
  | ((with_reducible apply app_go); (focus (exact rfl)); (focus (decide)); (focus (walk_at "s")); walk_at "w")
  | skip)
local macro_rules | `(tactic| walk_at "f") => `(tactic| (conv => whnf); first
  | exact True.intro
  | ((refine And.intro True.intro ?_); walk_at "f"))
local macro_rules | `(tactic| walk_at "c") => `(tactic| (apply enterR); (focus (exact rfl)); (focus (walk_at "f")); (focus (walk_at "ev")); (focus ((intro R hR); walk_at "w")))
local macro_rules | `(tactic| walk_at "o") => `(tactic| (first | with_reducible apply wc_openI | with_reducible apply wc_openV | with_reducible apply wf_openI | with_reducible apply wf_openV); (focus (walk_at "ev")); walk_at "w")
local macro_rules | `(tactic| walk_at "p") => `(tactic| (first | with_reducible apply wc_keepI | with_reducible apply wc_keepV | with_reducible apply wf_keepI | with_reducible apply wf_keepV); (focus (walk_at "ev")))
local macro_rules | `(tactic| walk_at "k") => `(tactic| fail "no spec")
local macro_rules | `(tactic| walk_at "lx") => `(tactic| first
  | exact lv_nil rfl
  | ((apply lv_cons); (focus (exact rfl)); (focus (conv => lhs; whnf)); walk_at "lx"))
local macro_rules | `(tactic| walk_at "oo") => `(tactic| (first | with_reducible apply wc_openLI | with_reducible apply wc_openLV | with_reducible apply wf_openLI | with_reducible apply wf_openLV); (focus (walk_at "ev")); (focus (walk_at "lx")); walk_at "w")
local macro_rules | `(tactic| walk_at "uO") => `(tactic| first
  | ((with_reducible apply r_oV); (focus (walk_at "s")); walk_at "u")
  | ((with_reducible apply r_oE); (focus (exact rfl)); walk_at "u"))
local macro_rules | `(tactic| walk_at "uP") => `(tactic| first
  | ((with_reducible apply r_lend); (focus (exact rfl)); (focus (walk_at "ev")); walk_at "u")
  | ((with_reducible apply r_oP); (focus (exact rfl)); walk_at "u"))
local macro_rules | `(tactic| walk_at "uE") => `(tactic| first
  | ((with_reducible apply r_bin); walk_at "u")
  | ((with_reducible apply r_ix); walk_at "u")
  | ((with_reducible apply r_c); walk_at "u")
  | ((with_reducible apply r_vv); (focus (exact rfl)); walk_at "u")
  | ((with_reducible apply r_call); (focus (walk_at "bl")); walk_at "u")
  | ((with_reducible apply r_tup); walk_at "u")
  | ((with_reducible apply r_lst); walk_at "u")
  | ((with_reducible apply r_g); walk_at "u")
  | ((with_reducible apply r_neg); walk_at "u")
  | ((with_reducible apply r_cmp); walk_at "u")
  | ((with_reducible apply r_chain); walk_at "u")
  | ((with_reducible apply r_chain3); walk_at "u")
  | ((with_reducible apply r_isc); walk_at "u")
  | ((with_reducible apply r_and); walk_at "u")
  | ((with_reducible apply r_or); walk_at "u")
  | ((with_reducible apply r_not); walk_at "u")
  | ((with_reducible apply r_ite); walk_at "u")
  | ((with_reducible apply r_sl); walk_at "u")
  | ((with_reducible apply r_rev); walk_at "u")
  | ((with_reducible apply r_isi); walk_at "u")
  | ((with_reducible apply r_bi2); walk_at "u")
  | ((with_reducible apply r_lc); walk_at "u")
  | ((with_reducible apply r_list); walk_at "u")
  | ((with_reducible apply r_vo); (focus (exact rfl)); walk_at "u")
  | ((with_reducible apply r_vs); (focus (exact rfl)); walk_at "u")
  | ((with_reducible apply r_bi1); (focus (decide)); walk_at "u"))
local macro_rules | `(tactic| walk_at "uT") => `(tactic| first
  | ((with_reducible apply t_cmp); walk_at "u")
  | ((with_reducible apply t_and); walk_at "u")
  | ((with_reducible apply t_or); walk_at "u")
  | ((with_reducible apply t_not); walk_at "u")
  | ((with_reducible apply t_chain); walk_at "u")
  | ((with_reducible apply t_chain3); walk_at "u")
  | ((with_reducible apply t_isc); walk_at "u")
  | ((with_reducible apply t_isi); walk_at "u")
  | ((with_reducible apply t_bi1); walk_at "u")
  | ((with_reducible apply t_ix); walk_at "u")
  | ((with_reducible apply t_call); walk_at "u")
  | ((with_reducible apply t_bin); walk_at "u")
  | ((with_reducible apply t_v); (focus (exact rfl)); walk_at "u"))
local macro_rules | `(tactic| walk_at "uS") => `(tactic| first
  | ((with_reducible apply s_asg); walk_at "u")
  | ((with_reducible apply s_asgT); walk_at "u")
  | ((with_reducible apply s_par); walk_at "u")
  | ((with_reducible apply s_ex); walk_at "u")
  | ((with_reducible apply s_ite); walk_at "u")
  | ((with_reducible apply s_ret); (focus (exact rfl)); walk_at "u")
  | ((with_reducible apply s_ret0); walk_at "u")
  | ((with_reducible apply s_whl); walk_at "u")
  | ((with_reducible apply s_for); walk_at "u")
  | ((with_reducible apply s_pass); walk_at "u")
  | ((with_reducible apply s_brk); walk_at "u")
  | ((with_reducible apply s_cnt); walk_at "u")
  | ((with_reducible apply s_retV); (focus (exact rfl)); walk_at "u")
  | ((with_reducible apply s_retO); (focus (exact rfl)); walk_at "u")
  | ((with_reducible apply s_set); (focus (exact rfl)); walk_at "u")
  | ((with_reducible apply s_app); (focus (exact rfl)); walk_at "u"))
local macro_rules | `(tactic| walk_at "uSs") => `(tactic| first
  | ((with_reducible apply ss_cons); walk_at "u")
  | ((with_reducible apply ss_nil); walk_at "u"))
local macro_rules | `(tactic| walk_at "uBin") => `(tactic| first
  | ((with_reducible apply o_addI); walk_at "u")
  | ((with_reducible apply o_mulI); (focus (walk_at "s")); walk_at "u")
  | ((with_reducible apply o_subI); walk_at "u")
  | ((with_reducible apply o_fdivI); (focus (walk_at "s")); walk_at "u")
  | ((with_reducible apply o_modI); (focus (walk_at "s")); walk_at "u")
  | ((with_reducible apply o_powI); (focus (walk_at "s")); walk_at "u")
  | ((with_reducible apply o_addL); (focus (walk_at "s")); walk_at "u")
  | ((with_reducible apply o_addT); (focus (walk_at "s")); walk_at "u")
  | ((with_reducible apply o_mulT); (focus (exact ⟨(fun h => by cases h), by decide, by decide, by decide⟩)); walk_at "u")
  | ((with_reducible apply o_mulL); (focus (first | exact ⟨by decide, by decide, by decide⟩ | exact ⟨by omega, by omega, by simp; omega⟩)); walk_at "u"))
local macro_rules | `(tactic| walk_at "uCmp") => `(tactic| first
  | ((with_reducible apply o_eqI); walk_at "u")
  | ((with_reducible apply o_neI); walk_at "u")
  | ((with_reducible apply o_ltI); walk_at "u")
  | ((with_reducible apply o_leI); walk_at "u")
  | ((with_reducible apply o_gtI); walk_at "u")
  | ((with_reducible apply o_geI); walk_at "u")
  | ((with_reducible apply o_eq); (focus (walk_at "s")); walk_at "u")
  | ((with_reducible apply o_ne); (focus (walk_at "s")); walk_at "u")
  | ((with_reducible apply o_inT); (focus (walk_at "s")); walk_at "u")
  | ((with_reducible apply o_ninT); (focus (walk_at "s")); walk_at "u")
  | ((with_reducible apply o_inL); (focus (walk_at "s")); walk_at "u")
  | ((with_reducible apply o_ninL); (focus (walk_at "s")); walk_at "u"))
local macro_rules | `(tactic| walk_at "uTru") => `(tactic| first
  | ((with_reducible apply o_truB); walk_at "u")
  | ((with_reducible apply o_truI); walk_at "u")
  | ((with_reducible apply o_truL); walk_at "u")
  | ((with_reducible apply o_truT); walk_at "u")
  | ((with_reducible apply o_truN); walk_at "u"))
local macro_rules | `(tactic| walk_at "uBi1") => `(tactic| first
  | ((with_reducible apply o_lenL); walk_at "u")
  | ((with_reducible apply o_lenT); walk_at "u")
  | ((with_reducible apply o_abs); walk_at "u")
  | ((with_reducible apply o_int); walk_at "u")
  | ((with_reducible apply o_listL); walk_at "u")
  | ((with_reducible apply o_listT); walk_at "u")
  | ((with_reducible apply o_tupL); walk_at "u")
  | ((with_reducible apply o_tupT); walk_at "u"))
local macro_rules | `(tactic| walk_at "uStp") => `(tactic| first
  | ((with_reducible apply dx_list); (focus (exact rfl)); walk_at "u")
  | ((with_reducible apply dx_tup); (focus (exact rfl)); walk_at "u")
  | walk_at "ku")
local macro_rules | `(tactic| walk_at "uBr") => `(tactic| first
  | ((with_reducible refine brT ?_ ?_); (focus (exact rfl)); walk_at "u")
  | ((with_reducible refine brF ?_ ?_); (focus (exact rfl)); walk_at "u"))
local macro_rules | `(tactic| walk_at "u") => `(tactic| first
  | ((with_reducible apply gO); walk_at "uO")
  | ((with_reducible apply gP); walk_at "uP")
  | ((with_reducible apply gE); walk_at "uE")
  | ((with_reducible apply r_at); (focus (walk_at "ev")); walk_at "u")
  | ((with_reducible apply r_oD); walk_at "u")
  | ((with_reducible refine And.intro ?_ ?_); (focus (walk_at "s")); walk_at "u")
  | ((with_reducible apply gSs); walk_at "uSs")
  | ((with_reducible apply gS); walk_at "uS")
  | ((with_reducible apply gT); walk_at "uT")
  | ((with_reducible apply gBin); walk_at "uBin")
  | ((with_reducible apply gCmp); walk_at "uCmp")
  | ((with_reducible apply gTru); walk_at "uTru")
  | ((with_reducible apply gBr); walk_at "uBr")
  | ((with_reducible apply gStp); walk_at "uStp")
  | ((with_reducible apply es_cons); walk_at "u")
  | ((with_reducible apply es_nil); walk_at "u")
  | ((with_reducible apply as_nil); walk_at "u")
  | ((with_reducible apply as_val); walk_at "u")
  | ((with_reducible apply as_ref); (focus (walk_at "s")); walk_at "u")
  | ((with_reducible apply gBi1); walk_at "uBi1")
  | ((with_reducible apply b_n); (focus (walk_at "s")); walk_at "u")
  | ((with_reducible apply b_t); walk_at "u")
  | ((with_reducible apply bs_cons); walk_at "u")
  | ((with_reducible apply bs_nil); walk_at "u")
  | ((with_reducible apply rs_cons); walk_at "u")
  | ((with_reducible apply rs_nil); walk_at "u")
  | ((with_reducible apply Rt_go); (focus (with_reducible assumption)); (focus (walk_at "ev")); walk_at "u")
  | ((with_reducible apply wl_succ); walk_at "u")
  | ((with_reducible apply it_e); walk_at "u")
  | ((with_reducible apply it_rng1); walk_at "u")
  | ((with_reducible apply it_rng2); walk_at "u")
  | ((with_reducible apply it_zip); walk_at "u")
  | ((with_reducible apply zip_l); walk_at "u")
  | ((with_reducible apply zip_t); walk_at "u")
  | ((with_reducible apply it_enum); walk_at "u")
  | ((with_reducible apply enu_l); walk_at "u")
  | ((with_reducible apply to_som); walk_at "u")
  | ((with_reducible apply to_non); walk_at "u")
  | ((with_reducible apply eo_som); walk_at "u")
  | ((with_reducible apply eo_non); walk_at "u")
  | ((with_reducible apply wf_cons); (focus (walk_at "s")); walk_at "u")
  | ((with_reducible apply wf_nil); (focus (walk_at "s")); walk_at "u")
  | ((with_reducible apply wc_cons); (focus (walk_at "s")); walk_at "u")
  | ((with_reducible apply wc_nil); (focus (walk_at "s")); walk_at "u")
  | ((with_reducible apply r_lstS); (focus (exact rfl)); walk_at "u")
  | ((with_reducible apply r_lstN); (focus (exact rfl)); walk_at "u")
  | ((with_reducible apply o_isNN); walk_at "u")
  | ((with_reducible apply o_isN); (focus (exact rfl)); walk_at "u")
  | ((with_reducible apply o_isB); walk_at "u")
  | ((with_reducible apply o_max2); walk_at "u")
  | ((with_reducible apply o_min2); walk_at "u")
  | ((with_reducible apply o_slL); walk_at "u")
  | ((with_reducible apply o_slT); walk_at "u")
  | ((with_reducible apply o_revL); walk_at "u")
  | ((with_reducible apply set_go); (focus (exact rfl)); (focus (decide)); (focus (exact rfl)); walk_at "u")
  | ((with_reducible apply app_go); (focus (exact rfl)); (focus (decide)); (focus (walk_at "s")); walk_at "u")
  | skip)
local macro_rules | `(tactic| walk_at "ku") => `(tactic| fail "no spec")
local macro_rules | `(tactic| walk_at "a") => `(tactic| (with_reducible apply ss_go); (with_reducible apply ss_cons); (with_reducible apply s_asg))
local macro_rules | `(tactic| walk_at "cu") => `(tactic| (apply enterR); (focus (exact rfl)); (focus (walk_at "f")); (focus (walk_at "ev")); (focus ((intro R hR); walk_at "u")))
local macro_rules | `(tactic| walk_at "s1") => `(tactic| (with_reducible apply ss_go); (with_reducible apply ss_cons))
def dN (n : Nat) : List Nat := ((List.range n).map (· + 1)).filter fun d => Nat.beq (n % d) 0
def tN (n : Nat) : List Nat := (List.range n).filter fun i => Nat.beq (Nat.gcd i n) 1
def rN (n : Nat) : List Nat := ((List.range 20).map (· + 1)).filter fun r => Nat.beq (n % (r * r)) 0
def sumI (g : Nat → Int) : List Nat → Int
  | [] => 0
  | d :: l => g d + sumI g l
def small (n : Nat) : Bool :=
  (isP n == Nat.beq (dN n).length 2) && ((Nf.isort (Nf.dvs (Nf.fac n)) == (dN n).map (fun d => ((d : Nat) : Int))) && ((Nf.prodI Nf.gCnt (Nf.fac n) == ((dN n).length : Int)) &&
  ((Nf.prodI Nf.gSig (Nf.fac n) == sumI (fun d => (d : Int)) (dN n)) && ((Nf.prodI Nf.gPhi (Nf.fac n) == ((tN n).length : Int)) &&
  ((match (rN n).getLast? with | some r => (Nf.prodI Nf.gRt (Nf.fac n) == (r : Int)) && ((Nf.prodI Nf.gRs (Nf.fac n) == ((n / (r * r) : Nat) : Int)) && Nat.ble 1 r) | none => false) &&
  ((sumI (fun d => Nf.prodI Nf.gPhi (Nf.fac d)) (dN n) == (n : Int)) && (sumI (fun d => Nf.prodI Nf.gMu (Nf.fac d)) (dN n) == if n = 1 then 1 else 0)))))))
def smalls (n0 k : Nat) : Bool := Nat.rec true (fun i r => small (n0 + i + 1) && r) k
theorem smalls_of {n0 : Nat} : ∀ {k : Nat}, smalls n0 k = true → ∀ i, i < k → small (n0 + i + 1) = true
  | 0, _, i, h => absurd h (Nat.not_lt_zero _)
  | k + 1, h, i, hi => by
    have h' : (small (n0 + k + 1) && smalls n0 k) = true := h
    rw [Bool.and_eq_true] at h'
    by_cases q : i = k
    · subst q
      exact h'.1
    · exact smalls_of h'.2 i (by omega)
theorem sm0 : smalls 0 100 = true := by decide +kernel
theorem sm1 : smalls 100 100 = true := by decide +kernel
theorem sm2 : smalls 200 100 = true := by decide +kernel
theorem sm3 : smalls 300 100 = true := by decide +kernel
theorem small_all {n : Nat} (h0 : 1 ≤ n) (h : n ≤ 400) : small n = true := by
  have key : ∀ m : Nat, smalls m 100 = true → m < n → n ≤ m + 100 → small n = true := fun m hs h1 h2 => by
    have := smalls_of hs (n - 1 - m) (by omega)
    rw [show m + (n - 1 - m) + 1 = n from by omega] at this
    exact this
  by_cases q1 : n ≤ 100
  · exact key 0 sm0 (by omega) (by omega)
  · by_cases q2 : n ≤ 200
    · exact key 100 sm1 (by omega) (by omega)
    · by_cases q3 : n ≤ 300
      · exact key 200 sm2 (by omega) (by omega)
      · exact key 300 sm3 (by omega) (by omega)
abbrev iN (d : Nat) : D := .int (d : Nat)
def pN (q : Nat → Bool) : D → Bool
  | .int i => q i.toNat
  | _ => false
theorem filtN (q : Nat → Bool) (l : List Nat) : ((l.map iN).filter (pN q)).map id = (l.filter q).map iN := by
  rw [List.map_id, List.filter_map]
  rfl
def oN (g : Nat → Int) : D → D
  | .int i => .int (g i.toNat)
  | _ => .none
theorem mapN (g : Nat → Int) (l : List Nat) : (l.map iN).map (oN g) = (l.map g).map PyData.int := by
  rw [List.map_map, List.map_map]
  rfl
theorem sumN (g : Nat → Int) (l : List Nat) : (l.map g).sum = sumI g l := by
  induction l with
  | nil => rfl
  | cons d l ih => rw [List.map_cons, List.sum_cons, ih]; rfl
theorem rng1N (m : Nat) : rngD 1 m = ((List.range m).map (· + 1)).map iN := by
  unfold rngD
  rw [List.map_map]
  apply List.map_congr_left
  intro i _
  show PyData.int _ = PyData.int _
  congr 1
  show 1 + (i : Int) = ((i + 1 : Nat) : Int)
  omega
theorem rng0N (m : Nat) : rngD 0 m = (List.range m).map iN := by
  unfold rngD
  apply List.map_congr_left
  intro i _
  show PyData.int _ = PyData.int _
  congr 1
  omega
theorem isN (l : List Nat) : ∀ x ∈ l.map iN, ∃ d ∈ l, x = iN d := fun x hx => by
  obtain ⟨f, hf, rfl⟩ := List.mem_map.mp hx
  exact ⟨f, hf, rfl⟩
theorem sp_law_small_right {k : Nat} (hk : 12 ≤ k) {s : List D} (hc : Cup s) {Q : Sl → List Sl → Prop} (hQ : ∀ s' : List D, Cup s' → Q (.val (.bool true)) [.own .bor s']) : stp (wCall fns k 21 [.own .bor s] Q) := by
  obtain ⟨k, rfl⟩ := Nat.exists_eq_add_of_le' hk
  walk_at "c"
  refine sp_roll (by omega) hc (by omega) (by omega) fun s1 a c1 a0 a1 => ?_
  obtain ⟨N, hA⟩ : ∃ N, 1 + a = N := ⟨_, rfl⟩
  have nN : Nm N := ⟨by omega, by omega⟩
  obtain ⟨n, hn⟩ : ∃ n : Nat, n = N.toNat := ⟨_, rfl⟩
  have hN : N = (n : Int) := by omega
  have hs := small_all (n := n) (by omega) (by omega)
  unfold small at hs
  simp only [Bool.and_eq_true, beq_iff_eq] at hs
  obtain ⟨p1, p2, p3, p4, p5, p6, p7, p8⟩ := hs
  walk_at "w"
  walk_at "p"
  rw [hA]
  rw [show (N + 1 - 1).toNat = n from by omega, rng1N]
  refine dComp_fm (pN fun d => Nat.beq (n % d) 0) id (fun x => ∃ d ∈ (List.range n).map (· + 1), x = iN d) (isN _) (by rw [List.length_map, List.length_map, List.length_range]; exact line6 (by omega)) ?_ ?_
  · rintro _ rest acc ⟨d, hd, rfl⟩ hacc next
    obtain ⟨i, hi, rfl⟩ := List.mem_map.mp hd
    have hi := List.mem_range.mp hi
    obtain ⟨d, hdd⟩ : ∃ d, d = i + 1 := ⟨_, rfl⟩
    simp only [← hdd] at next ⊢
    obtain ⟨Z, hZ⟩ : ∃ Z : Int, Z = d := ⟨_, rfl⟩
    have e1 : iN d = .int Z := by rw [hZ]
    have eM : N.fmod Z = ((n % d : Nat) : Int) := by rw [hN, hZ]; exact natMod
    have ep : pN (fun d => Nat.beq (n % d) 0) (.int Z) = Nat.beq (n % d) 0 := by
      show Nat.beq (n % Z.toNat) 0 = _
      rw [show Z.toNat = d from by omega]
    rw [e1] at next ⊢
    rw [ep] at next
    have ne : Z ≠ 0 := by omega
    walk_at "w"
    rw [eM]
    refine brI (fun h => ?_) (fun h => ?_)
    · rw [if_pos (by rw [Nat.beq_eq]; rw [beq_iff_eq] at h; omega)] at next
      walk_at "w"
      exact next
    · rw [if_neg (by rw [Nat.beq_eq]; rw [beq_eq_false_iff_ne] at h; omega)] at next
      walk_at "w"
      exact next
  rw [filtN]
  have eD : ((List.range n).map (· + 1)).filter (fun d => Nat.beq (n % d) 0) = dN n := rfl
  rw [eD]
  walk_at "w"
  walk_at "p"
  rw [show N.toNat = n from by omega, rng0N]
  refine dComp_fm (pN fun d => Nat.beq (Nat.gcd d n) 1) id (fun x => ∃ d ∈ List.range n, x = iN d) (isN _) (by rw [List.length_map, List.length_range]; exact line6 (by omega)) ?_ ?_
  · rintro _ rest acc ⟨d, hd, rfl⟩ hacc next
    have hi := List.mem_range.mp hd
    obtain ⟨Z, hZ⟩ : ∃ Z : Int, Z = d := ⟨_, rfl⟩
    have e1 : iN d = .int Z := by rw [hZ]
    have eM : ((Int.gcd Z N : Nat) : Int) = ((Nat.gcd d n : Nat) : Int) := by rw [hN, hZ, Int.gcd_natCast_natCast]
    have ep : pN (fun d => Nat.beq (Nat.gcd d n) 1) (.int Z) = Nat.beq (Nat.gcd d n) 1 := by
      show Nat.beq (Nat.gcd Z.toNat n) 1 = _
      rw [show Z.toNat = d from by omega]
    rw [e1] at next ⊢
    rw [ep] at next
    walk_at "w"
    refine sp_law_divisor (by omega) ?_
    rw [eM]
    walk_at "w"
    refine brI (fun h => ?_) (fun h => ?_)
    · rw [if_pos (by rw [Nat.beq_eq]; rw [beq_iff_eq] at h; omega)] at next
      walk_at "w"
      exact next
    · rw [if_neg (by rw [Nat.beq_eq]; rw [beq_eq_false_iff_ne] at h; omega)] at next
      walk_at "w"
      exact next
  rw [filtN]
  have eT : (List.range n).filter (fun d => Nat.beq (Nat.gcd d n) 1) = tN n := rfl
  rw [eT]
  walk_at "w"
  walk_at "p"
  have e20 : (21 - 1 : Int).toNat = 20 := rfl
  rw [e20, rng1N]
  refine dComp_fm (pN fun r => Nat.beq (n % (r * r)) 0) id (fun x => ∃ d ∈ (List.range 20).map (· + 1), x = iN d) (isN _) (by rw [List.length_map, List.length_map, List.length_range]; exact line6 (by omega)) ?_ ?_
  · rintro _ rest acc ⟨d, hd, rfl⟩ hacc next
    obtain ⟨i, hi, rfl⟩ := List.mem_map.mp hd
    have hi := List.mem_range.mp hi
    obtain ⟨d, hdd⟩ : ∃ d, d = i + 1 := ⟨_, rfl⟩
    simp only [← hdd] at next ⊢
    obtain ⟨Z, hZ⟩ : ∃ Z : Int, Z = d := ⟨_, rfl⟩
    have e1 : iN d = .int Z := by rw [hZ]
    have eM : N.fmod (Z * Z) = ((n % (d * d) : Nat) : Int) := by rw [hN, hZ, ← Int.natCast_mul]; exact natMod
    have ep : pN (fun r => Nat.beq (n % (r * r)) 0) (.int Z) = Nat.beq (n % (d * d)) 0 := by
      show Nat.beq (n % (Z.toNat * Z.toNat)) 0 = _
      rw [show Z.toNat = d from by omega]
    rw [e1] at next ⊢
    rw [ep] at next
    have bZ : Bd 64 Z := .of (by omega)
    have i1 : IntMulOk Z Z := mulOk bZ bZ (by omega)
    have sq : 0 < Z * Z := Int.mul_pos (by omega) (by omega)
    have ne : Z * Z ≠ 0 := by omega
    walk_at "w"
    rw [eM]
    refine brI (fun h => ?_) (fun h => ?_)
    · rw [if_pos (by rw [Nat.beq_eq]; rw [beq_iff_eq] at h; omega)] at next
      walk_at "w"
      exact next
    · rw [if_neg (by rw [Nat.beq_eq]; rw [beq_eq_false_iff_ne] at h; omega)] at next
      walk_at "w"
      exact next
  rw [filtN]
  have eR : ((List.range 20).map (· + 1)).filter (fun r => Nat.beq (n % (r * r)) 0) = rN n := rfl
  rw [eR]
  obtain ⟨r, hr⟩ : ∃ r, (rN n).getLast? = some r := by
    cases q : (rN n).getLast? with
    | none => rw [q] at p6; cases p6
    | some r => exact ⟨r, rfl⟩
  rw [hr] at p6
  simp only [Bool.and_eq_true, beq_iff_eq, Nat.ble_eq] at p6
  obtain ⟨p6, p6b, r1⟩ := p6
  obtain ⟨ys, eY⟩ := List.getLast?_eq_some_iff.mp hr
  have r20 : r ≤ 20 := by
    have hm : r ∈ rN n := by rw [eY]; simp
    have := (List.mem_filter.mp hm).1
    obtain ⟨i, hi, rfl⟩ := List.mem_map.mp this
    have := List.mem_range.mp hi
    omega
  have eRs : (rN n).map iN = ys.map iN ++ [iN r] := by rw [eY, List.map_append]; rfl
  have eF : fa N = Nf.fac n := by show Nf.fac N.toNat = _; rw [← hn]
  obtain ⟨Z, hZ⟩ : ∃ Z : Int, Z = r := ⟨_, rfl⟩
  have e1 : iN r = .int Z := by rw [hZ]
  have bZ : Bd 64 Z := .of (by omega)
  have i1 : IntMulOk Z Z := mulOk bZ bZ (by omega)
  have sq : 0 < Z * Z := Int.mul_pos (by omega) (by omega)
  have sq2 : Z * Z ≤ 20 * 20 := Int.mul_le_mul (by omega) (by omega) (by omega) (by omega)
  have dv := divB sq (by omega)
  rw [eRs, e1]
  walk_at "w"
  refine sp_is_prime_number (by omega) nN ?_
  walk_at "w"
  refine sp_divisors_of (by omega) nN ?_
  walk_at "w"
  refine sp_count_divisors (by omega) nN ?_
  walk_at "w"
  refine sp_sum_of_divisors (by omega) nN ?_
  walk_at "w"
  refine sp_totient_of (by omega) nN ?_
  walk_at "w"
  refine sp_split_square (by omega) nN ?_
  walk_at "w"
  refine o_sum (ns := (dN n).map fun d => ((d : Nat) : Int)) (by rw [List.map_map]; rfl) ?_
  rw [sumN]
  walk_at "w"
  refine dx_list (DL.atI_last _ _) ?_
  walk_at "w"
  refine dx_list (DL.atI_last _ _) ?_
  walk_at "w"
  refine dx_list (DL.atI_last _ _) ?_
  walk_at "w"
  have eDv : N.fdiv (Z * Z) = ((n / (r * r) : Nat) : Int) := by rw [hN, hZ, ← Int.natCast_mul]; exact natDiv
  have q1 : isP N.toNat = ((((dN n).map iN).length : Int) == 2) := by
    rw [← hn, p1, List.length_map, Bool.eq_iff_iff, Nat.beq_eq, beq_iff_eq]
    omega
  have q2 : (Nf.isort (Nf.dvs (fa N))).map PyData.int = (dN n).map iN := by rw [eF, p2, List.map_map]; rfl
  have q3 : Nf.prodI Nf.gCnt (fa N) = (((dN n).map iN).length : Int) := by rw [eF, p3, List.length_map]
  have q5 : Nf.prodI Nf.gPhi (fa N) = (((tN n).map iN).length : Int) := by rw [eF, p5, List.length_map]
  have q6 : Nf.prodI Nf.gRt (fa N) = Z := by rw [eF, p6, hZ]
  have q7 : Nf.prodI Nf.gRs (fa N) = N.fdiv (Z * Z) := by rw [eF, p6b, eDv]
  have q4 : Nf.prodI Nf.gSig (fa N) = sumI (fun d => ((d : Nat) : Int)) (dN n) := by rw [eF, p4]
  rw [q1, q2, q3, q4, q5, q6, q7]
  have aT : Any 3 (.list [.bool ((((dN n).map iN).length : Int) == 2), .tuple ((dN n).map iN), .int (((dN n).map iN).length : Int), .int (sumI (fun d => ((d : Nat) : Int)) (dN n)), .int (((tN n).map iN).length : Int), .tuple [.int Z, .int (N.fdiv (Z * Z))]]) := Any.list fun x hx => by
    simp only [List.mem_cons, List.not_mem_nil, or_false] at hx
    rcases hx with rfl | rfl | rfl | rfl | rfl | rfl
    · exact Any.bool _
    · exact Any.tup fun y hy => by
        obtain ⟨d, -, rfl⟩ := List.mem_map.mp hy
        exact Any.int _
    · exact Any.int _
    · exact Any.int _
    · exact Any.int _
    · exact ⟨rfl, of_decide_eq_true rfl⟩
  refine sp_same rfl aT.lay (Nat.le_trans aT.dep (by decide)) (by omega) ?_
  have dlen : ((dN n).map iN).length ≤ sizeLine := by
    rw [List.length_map]
    unfold dN
    refine Nat.le_trans (List.length_filter_le _ _) ?_
    rw [List.length_map, List.length_range]
    exact line6 (by omega)
  have dnm : ∀ d ∈ dN n, Nm (d : Int) := fun d hd => by
    obtain ⟨i, hi, rfl⟩ := List.mem_map.mp (List.mem_filter.mp hd).1
    have := List.mem_range.mp hi
    exact ⟨by omega, by omega⟩
  walk_at "w"
  walk_at "p"
  refine dComp_map (oN fun d => Nf.prodI Nf.gPhi (Nf.fac d)) (fun x => ∃ d ∈ dN n, x = iN d) (isN _) dlen ?_ ?_
  · rintro _ rest acc ⟨d, hd, rfl⟩ hacc next
    have hm := dnm d hd
    walk_at "w"
    refine sp_totient_of (by omega) hm ?_
    walk_at "w"
    exact next
  rw [mapN]
  walk_at "w"
  refine o_sum rfl ?_
  rw [sumN, p7]
  have e3 : ((n : Int) == N) = true := by rw [beq_iff_eq]; omega
  walk_at "w"
  rw [e3]
  walk_at "w"
  walk_at "p"
  refine dComp_map (oN fun d => Nf.prodI Nf.gMu (Nf.fac d)) (fun x => ∃ d ∈ dN n, x = iN d) (isN _) dlen ?_ ?_
  · rintro _ rest acc ⟨d, hd, rfl⟩ hacc next
    have hm := dnm d hd
    walk_at "w"
    refine sp_moebius_of (by omega) hm ?_
    walk_at "w"
    exact next
  rw [mapN]
  walk_at "w"
  refine o_sum rfl ?_
  rw [sumN, p8]
  walk_at "w"
  refine brI (fun h => ?_) (fun h => ?_)
  · rw [beq_iff_eq] at h
    rw [if_pos (by omega)]
    walk_at "w"
    exact hQ _ c1
  · rw [beq_eq_false_iff_ne] at h
    rw [if_neg (by omega)]
    walk_at "w"
    exact hQ _ c1
end K03

set_option Elab.async false
set_option linter.all false
set_option maxRecDepth 100000
set_option maxHeartbeats 0
set_option exponentiation.threshold 4000
namespace K03
open PySem PySem.Spec PyProof.Rows L2 DL
local macro_rules | `(tactic| walk_at "bd") => `(tactic| repeat' (first
  | with_reducible assumption
  | with_reducible apply Bd.add
  | with_reducible apply Bd.sub
  | with_reducible apply Bd.mul
  | with_reducible apply Bd.neg
  | with_reducible apply Bd.fdiv
  | ((with_reducible apply Bd.fmod); (focus (first | decide | omega)))
  | with_reducible apply Bd.abs
  | exact Bd.lit (by decide) (by decide)
  | exact Bd.lit (by omega) (by omega)
  | exact Bd.lit2 (by decide) (by decide)))
local macro_rules | `(tactic| walk_at "pl") => `(tactic| first
  | with_reducible exact plN
  | ((with_reducible refine plC ?_ ?_); (focus (first | exact (show plainSl _ from True.intro) | exact (show plainSl _ from by assumption))); walk_at "pl"))
local macro_rules | `(tactic| walk_at "fl") => `(tactic| first
  | with_reducible exact flN
  | ((with_reducible refine flC ?_ ?_); (focus (first | exact (show freeSl _ from True.intro) | exact (show freeSl _ from by assumption))); walk_at "fl"))
local macro_rules | `(tactic| walk_at "s") => `(tactic| first
  | exact (show hasSl _ _ from True.intro)
  | exact (show freeSl _ from True.intro)
  | exact (show stillW _ _ from True.intro)
  | exact (show stillW _ _ from rfl)
  | exact (show freeSl _ from by assumption)
  | walk_at "pl"
  | walk_at "fl"
  | ((with_reducible apply mulR); exact Bd.lit (by decide) (by decide))
  | ((with_reducible apply mulL); exact Bd.lit (by decide) (by decide))
  | ((with_reducible apply mulOk); (focus (walk_at "bd")); (focus (walk_at "bd")); (focus (decide)))
  | exact (show CPow _ _ from ⟨by decide, by decide, by decide⟩)
  | ((with_reducible apply divOk) <;> first | decide | assumption | omega)
  | with_reducible assumption
  | exact ⟨rfl, rfl⟩
  | exact Nat.le_of_ble_eq_true rfl
  | exact of_decide_eq_true rfl
  | rfl
  | decide
  | omega)
local macro_rules | `(tactic| walk_at "ev") => `(tactic| first
  | exact ev_nil rfl
  | ((apply ev_cons); (focus (exact rfl)); (focus (conv => lhs; whnf)); walk_at "ev"))
local macro_rules | `(tactic| walk_at "bl") => `(tactic| first
  | exact bl_nil rfl
  | ((apply bl_cons); (focus (exact rfl)); (focus (conv => lhs; whnf)); walk_at "bl"))
local macro_rules | `(tactic| walk_at "gO") => `(tactic| first
  | ((with_reducible apply r_oV); (focus (walk_at "s")); walk_at "w")
  | ((with_reducible apply r_oE); (focus (exact rfl)); walk_at "w"))
local macro_rules | `(tactic| walk_at "gP") => `(tactic| first
  | ((with_reducible apply r_lend); (focus (exact rfl)); (focus (walk_at "ev")); walk_at "w")
  | ((with_reducible apply r_oP); (focus (exact rfl)); walk_at "w"))
local macro_rules | `(tactic| walk_at "gE") => `(tactic| first
  | ((with_reducible apply r_bin); walk_at "w")
  | ((with_reducible apply r_ix); walk_at "w")
  | ((with_reducible apply r_c); walk_at "w")
  | ((with_reducible apply r_vv); (focus (exact rfl)); walk_at "w")
  | ((with_reducible apply r_call); (focus (walk_at "bl")); walk_at "w")
  | ((with_reducible apply r_tup); walk_at "w")
  | ((with_reducible apply r_lst); walk_at "w")
  | ((with_reducible apply r_g); walk_at "w")
  | ((with_reducible apply r_neg); walk_at "w")
  | ((with_reducible apply r_cmp); walk_at "w")
  | ((with_reducible apply r_chain); walk_at "w")
  | ((with_reducible apply r_chain3); walk_at "w")
  | ((with_reducible apply r_isc); walk_at "w")
  | ((with_reducible apply r_and); walk_at "w")
  | ((with_reducible apply r_or); walk_at "w")
  | ((with_reducible apply r_not); walk_at "w")
  | ((with_reducible apply r_ite); walk_at "w")
  | ((with_reducible apply r_sl); walk_at "w")
  | ((with_reducible apply r_rev); walk_at "w")
  | ((with_reducible apply r_isi); walk_at "w")
  | ((with_reducible apply r_bi2); walk_at "w")
  | ((with_reducible apply r_lc); walk_at "w")
  | ((with_reducible apply r_list); walk_at "w")
  | ((with_reducible apply r_vo); (focus (exact rfl)); walk_at "w")
  | ((with_reducible apply r_vs); (focus (exact rfl)); walk_at "w")
  | ((with_reducible apply r_bi1); (focus (decide)); walk_at "w"))
local macro_rules | `(tactic| walk_at "gT") => `(tactic| first
  | ((with_reducible apply t_cmp); walk_at "w")
  | ((with_reducible apply t_and); walk_at "w")
  | ((with_reducible apply t_or); walk_at "w")
  | ((with_reducible apply t_not); walk_at "w")
  | ((with_reducible apply t_chain); walk_at "w")
  | ((with_reducible apply t_chain3); walk_at "w")
  | ((with_reducible apply t_isc); walk_at "w")
  | ((with_reducible apply t_isi); walk_at "w")
  | ((with_reducible apply t_bi1); walk_at "w")
  | ((with_reducible apply t_ix); walk_at "w")
  | ((with_reducible apply t_call); walk_at "w")
  | ((with_reducible apply t_bin); walk_at "w")
  | ((with_reducible apply t_v); (focus (exact rfl)); walk_at "w"))
local macro_rules | `(tactic| walk_at "gS") => `(tactic| first
  | ((with_reducible apply s_asg); walk_at "w")
  | ((with_reducible apply s_asgT); walk_at "w")
  | ((with_reducible apply s_par); walk_at "w")
  | ((with_reducible apply s_ex); walk_at "w")
  | ((with_reducible apply s_ite); walk_at "w")
  | ((with_reducible apply s_ret); (focus (exact rfl)); walk_at "w")
  | ((with_reducible apply s_ret0); walk_at "w")
  | ((with_reducible apply s_whl); walk_at "w")
  | ((with_reducible apply s_for); walk_at "w")
  | ((with_reducible apply s_pass); walk_at "w")
  | ((with_reducible apply s_brk); walk_at "w")
  | ((with_reducible apply s_cnt); walk_at "w")
  | ((with_reducible apply s_retV); (focus (exact rfl)); walk_at "w")
  | ((with_reducible apply s_retO); (focus (exact rfl)); walk_at "w")
  | ((with_reducible apply s_set); (focus (exact rfl)); walk_at "w")
  | ((with_reducible apply s_app); (focus (exact rfl)); walk_at "w"))
local macro_rules | `(tactic| walk_at "gSs") => `(tactic| first
  | ((with_reducible apply ss_cons); walk_at "w")
  | ((with_reducible apply ss_nil); walk_at "w"))
local macro_rules | `(tactic| walk_at "gBin") => `(tactic| first
  | ((with_reducible apply o_addI); walk_at "w")
  | ((with_reducible apply o_mulI); (focus (walk_at "s")); walk_at "w")
  | ((with_reducible apply o_subI); walk_at "w")
  | ((with_reducible apply o_fdivI); (focus (walk_at "s")); walk_at "w")
  | ((with_reducible apply o_modI); (focus (walk_at "s")); walk_at "w")
  | ((with_reducible apply o_powI); (focus (walk_at "s")); walk_at "w")
  | ((with_reducible apply o_addL); (focus (walk_at "s")); walk_at "w")
  | ((with_reducible apply o_addT); (focus (walk_at "s")); walk_at "w")
  | ((with_reducible apply o_mulT); (focus (exact ⟨(fun h => by cases h), by decide, by decide, by decide⟩)); walk_at "w")
  | ((with_reducible apply o_mulL); (focus (first | exact ⟨by decide, by decide, by decide⟩ | exact ⟨by omega, by omega, by simp; omega⟩)); walk_at "w"))
local macro_rules | `(tactic| walk_at "gCmp") => `(tactic| first
  | ((with_reducible apply o_eqI); walk_at "w")
  | ((with_reducible apply o_neI); walk_at "w")
  | ((with_reducible apply o_ltI); walk_at "w")
  | ((with_reducible apply o_leI); walk_at "w")
  | ((with_reducible apply o_gtI); walk_at "w")
  | ((with_reducible apply o_geI); walk_at "w")
  | ((with_reducible apply o_eq); (focus (walk_at "s")); walk_at "w")
  | ((with_reducible apply o_ne); (focus (walk_at "s")); walk_at "w")
  | ((with_reducible apply o_inT); (focus (walk_at "s")); walk_at "w")
  | ((with_reducible apply o_ninT); (focus (walk_at "s")); walk_at "w")
  | ((with_reducible apply o_inL); (focus (walk_at "s")); walk_at "w")
  | ((with_reducible apply o_ninL); (focus (walk_at "s")); walk_at "w"))
local macro_rules | `(tactic| walk_at "gTru") => `(tactic| first
  | ((with_reducible apply o_truB); walk_at "w")
  | ((with_reducible apply o_truI); walk_at "w")
  | ((with_reducible apply o_truL); walk_at "w")
  | ((with_reducible apply o_truT); walk_at "w")
  | ((with_reducible apply o_truN); walk_at "w"))
local macro_rules | `(tactic| walk_at "gBi1") => `(tactic| first
  | ((with_reducible apply o_lenL); walk_at "w")
  | ((with_reducible apply o_lenT); walk_at "w")
  | ((with_reducible apply o_abs); walk_at "w")
  | ((with_reducible apply o_int); walk_at "w")
  | ((with_reducible apply o_listL); walk_at "w")
  | ((with_reducible apply o_listT); walk_at "w")
  | ((with_reducible apply o_tupL); walk_at "w")
  | ((with_reducible apply o_tupT); walk_at "w"))
local macro_rules | `(tactic| walk_at "gStp") => `(tactic| first
  | ((with_reducible apply dx_list); (focus (exact rfl)); walk_at "w")
  | ((with_reducible apply dx_tup); (focus (exact rfl)); walk_at "w")
  | ((with_reducible apply ss_go); walk_at "w")
  | walk_at "k")
local macro_rules | `(tactic| walk_at "gBr") => `(tactic| first
  | ((with_reducible refine brT ?_ ?_); (focus (exact rfl)); walk_at "w")
  | ((with_reducible refine brF ?_ ?_); (focus (exact rfl)); walk_at "w"))
local macro_rules | `(tactic| walk_at "w") => `(tactic| first
  | ((with_reducible apply gO); walk_at "gO")
  | ((with_reducible apply gP); walk_at "gP")
  | ((with_reducible apply gE); walk_at "gE")
  | ((with_reducible apply r_at); (focus (walk_at "ev")); walk_at "w")
  | ((with_reducible apply r_oD); walk_at "w")
  | ((with_reducible refine And.intro ?_ ?_); (focus (walk_at "s")); walk_at "w")
  | ((with_reducible apply gSs); walk_at "gSs")
  | ((with_reducible apply gS); walk_at "gS")
  | ((with_reducible apply gT); walk_at "gT")
  | ((with_reducible apply gBin); walk_at "gBin")
  | ((with_reducible apply gCmp); walk_at "gCmp")
  | ((with_reducible apply gTru); walk_at "gTru")
  | ((with_reducible apply gBr); walk_at "gBr")
  | ((with_reducible apply gStp); walk_at "gStp")
  | ((with_reducible apply es_cons); walk_at "w")
  | ((with_reducible apply es_nil); walk_at "w")
  | ((with_reducible apply as_nil); walk_at "w")
  | ((with_reducible apply as_val); walk_at "w")
  | ((with_reducible apply as_ref); (focus (walk_at "s")); walk_at "w")
  | ((with_reducible apply gBi1); walk_at "gBi1")
  | ((with_reducible apply b_n); (focus (walk_at "s")); walk_at "w")
  | ((with_reducible apply b_t); walk_at "w")
  | ((with_reducible apply bs_cons); walk_at "w")
  | ((with_reducible apply bs_nil); walk_at "w")
  | ((with_reducible apply rs_cons); walk_at "w")
  | ((with_reducible apply rs_nil); walk_at "w")
  | ((with_reducible apply Rt_go); (focus (with_reducible assumption)); (focus (walk_at "ev")); walk_at "w")
  | ((with_reducible apply wl_succ); walk_at "w")
  | ((with_reducible apply it_e); walk_at "w")
  | ((with_reducible apply it_rng1); walk_at "w")
  | ((with_reducible apply it_rng2); walk_at "w")
  | ((with_reducible apply it_zip); walk_at "w")
  | ((with_reducible apply zip_l); walk_at "w")
  | ((with_reducible apply zip_t); walk_at "w")
  | ((with_reducible apply it_enum); walk_at "w")
  | ((with_reducible apply enu_l); walk_at "w")
  | ((with_reducible apply to_som); walk_at "w")
  | ((with_reducible apply to_non); walk_at "w")
  | ((with_reducible apply eo_som); walk_at "w")
  | ((with_reducible apply eo_non); walk_at "w")
  | ((with_reducible apply wf_cons); (focus (walk_at "s")); walk_at "w")
  | ((with_reducible apply wf_nil); (focus (walk_at "s")); walk_at "w")
  | ((with_reducible apply wc_cons); (focus (walk_at "s")); walk_at "w")
  | ((with_reducible apply wc_nil); (focus (walk_at "s")); walk_at "w")
  | ((with_reducible apply r_lstS); (focus (exact rfl)); walk_at "w")
  | ((with_reducible apply r_lstN); (focus (exact rfl)); walk_at "w")
  | ((with_reducible apply o_isNN); walk_at "w")
  | ((with_reducible apply o_isN); (focus (exact rfl)); walk_at "w")
  | ((with_reducible apply o_isB); walk_at "w")
  | ((with_reducible apply o_max2); walk_at "w")
  | ((with_reducible apply o_min2); walk_at "w")
  | ((with_reducible apply o_slL); walk_at "w")
  | ((with_reducible apply o_slT); walk_at "w")
  | ((with_reducible apply o_revL); walk_at "w")
  | ((with_reducible apply set_go); (focus (exact rfl)); (focus (decide)); (focus (exact rfl)); walk_at "w")
  | ((with_reducible apply app_go); (focus (exact rfl)); (focus (decide)); (focus (walk_at "s")); walk_at "w")
  | skip)
local macro_rules | `(tactic| walk_at "f") => `(tactic| (conv => whnf); first
  | exact True.intro
  | ((refine And.intro True.intro ?_); walk_at "f"))
local macro_rules | `(tactic| walk_at "c") => `(tactic| (apply enterR); (focus (exact rfl)); (focus (walk_at "f")); (focus (walk_at "ev")); (focus ((intro R hR); walk_at "w")))
local macro_rules | `(tactic| walk_at "o") => `(tactic| (first | with_reducible apply wc_openI | with_reducible apply wc_openV | with_reducible apply wf_openI | with_reducible apply wf_openV); (focus (walk_at "ev")); walk_at "w")
local macro_rules | `(tactic| walk_at "p") => `(tactic| (first | with_reducible apply wc_keepI | with_reducible apply wc_keepV | with_reducible apply wf_keepI | with_reducible apply wf_keepV); (focus (walk_at "ev")))
local macro_rules | `(tactic| walk_at "k") => `(tactic| fail "no spec")
local macro_rules | `(tactic| walk_at "lx") => `(tactic| first
  | exact lv_nil rfl
  | ((apply lv_cons); (focus (exact rfl)); (focus (conv => lhs; whnf)); walk_at "lx"))
local macro_rules | `(tactic| walk_at "oo") => `(tactic| (first | with_reducible apply wc_openLI | with_reducible apply wc_openLV | with_reducible apply wf_openLI | with_reducible apply wf_openLV); (focus (walk_at "ev")); (focus (walk_at "lx")); walk_at "w")
local macro_rules | `(tactic| walk_at "uO") => `(tactic| first
  | ((with_reducible apply r_oV); (focus (walk_at "s")); walk_at "u")
  | ((with_reducible apply r_oE); (focus (exact rfl)); walk_at "u"))
local macro_rules | `(tactic| walk_at "uP") => `(tactic| first
  | ((with_reducible apply r_lend); (focus (exact rfl)); (focus (walk_at "ev")); walk_at "u")
  | ((with_reducible apply r_oP); (focus (exact rfl)); walk_at "u"))
local macro_rules | `(tactic| walk_at "uE") => `(tactic| first
  | ((with_reducible apply r_bin); walk_at "u")
  | ((with_reducible apply r_ix); walk_at "u")
  | ((with_reducible apply r_c); walk_at "u")
  | ((with_reducible apply r_vv); (focus (exact rfl)); walk_at "u")
  | ((with_reducible apply r_call); (focus (walk_at "bl")); walk_at "u")
  | ((with_reducible apply r_tup); walk_at "u")
  | ((with_reducible apply r_lst); walk_at "u")
  | ((with_reducible apply r_g); walk_at "u")
  | ((with_reducible apply r_neg); walk_at "u")
  | ((with_reducible apply r_cmp); walk_at "u")
  | ((with_reducible apply r_chain); walk_at "u")
  | ((with_reducible apply r_chain3); walk_at "u")
  | ((with_reducible apply r_isc); walk_at "u")
  | ((with_reducible apply r_and); walk_at "u")
  | ((with_reducible apply r_or); walk_at "u")
  | ((with_reducible apply r_not); walk_at "u")
  | ((with_reducible apply r_ite); walk_at "u")
  | ((with_reducible apply r_sl); walk_at "u")
  | ((with_reducible apply r_rev); walk_at "u")
  | ((with_reducible apply r_isi); walk_at "u")
  | ((with_reducible apply r_bi2); walk_at "u")
  | ((with_reducible apply r_lc); walk_at "u")
  | ((with_reducible apply r_list); walk_at "u")
  | ((with_reducible apply r_vo); (focus (exact rfl)); walk_at "u")
  | ((with_reducible apply r_vs); (focus (exact rfl)); walk_at "u")
  | ((with_reducible apply r_bi1); (focus (decide)); walk_at "u"))
local macro_rules | `(tactic| walk_at "uT") => `(tactic| first
  | ((with_reducible apply t_cmp); walk_at "u")
  | ((with_reducible apply t_and); walk_at "u")
  | ((with_reducible apply t_or); walk_at "u")
  | ((with_reducible apply t_not); walk_at "u")
  | ((with_reducible apply t_chain); walk_at "u")
  | ((with_reducible apply t_chain3); walk_at "u")
  | ((with_reducible apply t_isc); walk_at "u")
  | ((with_reducible apply t_isi); walk_at "u")
  | ((with_reducible apply t_bi1); walk_at "u")
  | ((with_reducible apply t_ix); walk_at "u")
  | ((with_reducible apply t_call); walk_at "u")
  | ((with_reducible apply t_bin); walk_at "u")
  | ((with_reducible apply t_v); (focus (exact rfl)); walk_at "u"))
local macro_rules | `(tactic| walk_at "uS") => `(tactic| first
  | ((with_reducible apply s_asg); walk_at "u")
  | ((with_reducible apply s_asgT); walk_at "u")
  | ((with_reducible apply s_par); walk_at "u")
  | ((with_reducible apply s_ex); walk_at "u")
  | ((with_reducible apply s_ite); walk_at "u")
  | ((with_reducible apply s_ret); (focus (exact rfl)); walk_at "u")
  | ((with_reducible apply s_ret0); walk_at "u")
  | ((with_reducible apply s_whl); walk_at "u")
  | ((with_reducible apply s_for); walk_at "u")
  | ((with_reducible apply s_pass); walk_at "u")
  | ((with_reducible apply s_brk); walk_at "u")
  | ((with_reducible apply s_cnt); walk_at "u")
  | ((with_reducible apply s_retV); (focus (exact rfl)); walk_at "u")
  | ((with_reducible apply s_retO); (focus (exact rfl)); walk_at "u")
  | ((with_reducible apply s_set); (focus (exact rfl)); walk_at "u")
  | ((with_reducible apply s_app); (focus (exact rfl)); walk_at "u"))
local macro_rules | `(tactic| walk_at "uSs") => `(tactic| first
  | ((with_reducible apply ss_cons); walk_at "u")
  | ((with_reducible apply ss_nil); walk_at "u"))
local macro_rules | `(tactic| walk_at "uBin") => `(tactic| first
  | ((with_reducible apply o_addI); walk_at "u")
  | ((with_reducible apply o_mulI); (focus (walk_at "s")); walk_at "u")
  | ((with_reducible apply o_subI); walk_at "u")
  | ((with_reducible apply o_fdivI); (focus (walk_at "s")); walk_at "u")
  | ((with_reducible apply o_modI); (focus (walk_at "s")); walk_at "u")
  | ((with_reducible apply o_powI); (focus (walk_at "s")); walk_at "u")
  | ((with_reducible apply o_addL); (focus (walk_at "s")); walk_at "u")
  | ((with_reducible apply o_addT); (focus (walk_at "s")); walk_at "u")
  | ((with_reducible apply o_mulT); (focus (exact ⟨(fun h => by cases h), by decide, by decide, by decide⟩)); walk_at "u")
  | ((with_reducible apply o_mulL); (focus (first | exact ⟨by decide, by decide, by decide⟩ | exact ⟨by omega, by omega, by simp; omega⟩)); walk_at "u"))
local macro_rules | `(tactic| walk_at "uCmp") => `(tactic| first
  | ((with_reducible apply o_eqI); walk_at "u")
  | ((with_reducible apply o_neI); walk_at "u")
  | ((with_reducible apply o_ltI); walk_at "u")
  | ((with_reducible apply o_leI); walk_at "u")
  | ((with_reducible apply o_gtI); walk_at "u")
  | ((with_reducible apply o_geI); walk_at "u")
  | ((with_reducible apply o_eq); (focus (walk_at "s")); walk_at "u")
  | ((with_reducible apply o_ne); (focus (walk_at "s")); walk_at "u")
  | ((with_reducible apply o_inT); (focus (walk_at "s")); walk_at "u")
  | ((with_reducible apply o_ninT); (focus (walk_at "s")); walk_at "u")
  | ((with_reducible apply o_inL); (focus (walk_at "s")); walk_at "u")
  | ((with_reducible apply o_ninL); (focus (walk_at "s")); walk_at "u"))
local macro_rules | `(tactic| walk_at "uTru") => `(tactic| first
  | ((with_reducible apply o_truB); walk_at "u")
  | ((with_reducible apply o_truI); walk_at "u")
  | ((with_reducible apply o_truL); walk_at "u")
  | ((with_reducible apply o_truT); walk_at "u")
  | ((with_reducible apply o_truN); walk_at "u"))
local macro_rules | `(tactic| walk_at "uBi1") => `(tactic| first
  | ((with_reducible apply o_lenL); walk_at "u")
  | ((with_reducible apply o_lenT); walk_at "u")
  | ((with_reducible apply o_abs); walk_at "u")
  | ((with_reducible apply o_int); walk_at "u")
  | ((with_reducible apply o_listL); walk_at "u")
  | ((with_reducible apply o_listT); walk_at "u")
  | ((with_reducible apply o_tupL); walk_at "u")
  | ((with_reducible apply o_tupT); walk_at "u"))
local macro_rules | `(tactic| walk_at "uStp") => `(tactic| first
  | ((with_reducible apply dx_list); (focus (exact rfl)); walk_at "u")
  | ((with_reducible apply dx_tup); (focus (exact rfl)); walk_at "u")
  | walk_at "ku")
local macro_rules | `(tactic| walk_at "uBr") => `(tactic| first
  | ((with_reducible refine brT ?_ ?_); (focus (exact rfl)); walk_at "u")
  | ((with_reducible refine brF ?_ ?_); (focus (exact rfl)); walk_at "u"))
local macro_rules | `(tactic| walk_at "u") => `(tactic| first
  | ((with_reducible apply gO); walk_at "uO")
  | ((with_reducible apply gP); walk_at "uP")
  | ((with_reducible apply gE); walk_at "uE")
  | ((with_reducible apply r_at); (focus (walk_at "ev")); walk_at "u")
  | ((with_reducible apply r_oD); walk_at "u")
  | ((with_reducible refine And.intro ?_ ?_); (focus (walk_at "s")); walk_at "u")
  | ((with_reducible apply gSs); walk_at "uSs")
  | ((with_reducible apply gS); walk_at "uS")
  | ((with_reducible apply gT); walk_at "uT")
  | ((with_reducible apply gBin); walk_at "uBin")
  | ((with_reducible apply gCmp); walk_at "uCmp")
  | ((with_reducible apply gTru); walk_at "uTru")
  | ((with_reducible apply gBr); walk_at "uBr")
  | ((with_reducible apply gStp); walk_at "uStp")
  | ((with_reducible apply es_cons); walk_at "u")
  | ((with_reducible apply es_nil); walk_at "u")
  | ((with_reducible apply as_nil); walk_at "u")
  | ((with_reducible apply as_val); walk_at "u")
  | ((with_reducible apply as_ref); (focus (walk_at "s")); walk_at "u")
  | ((with_reducible apply gBi1); walk_at "uBi1")
  | ((with_reducible apply b_n); (focus (walk_at "s")); walk_at "u")
  | ((with_reducible apply b_t); walk_at "u")
  | ((with_reducible apply bs_cons); walk_at "u")
  | ((with_reducible apply bs_nil); walk_at "u")
  | ((with_reducible apply rs_cons); walk_at "u")
  | ((with_reducible apply rs_nil); walk_at "u")
  | ((with_reducible apply Rt_go); (focus (with_reducible assumption)); (focus (walk_at "ev")); walk_at "u")
  | ((with_reducible apply wl_succ); walk_at "u")
  | ((with_reducible apply it_e); walk_at "u")
  | ((with_reducible apply it_rng1); walk_at "u")
  | ((with_reducible apply it_rng2); walk_at "u")
  | ((with_reducible apply it_zip); walk_at "u")
  | ((with_reducible apply zip_l); walk_at "u")
  | ((with_reducible apply zip_t); walk_at "u")
  | ((with_reducible apply it_enum); walk_at "u")
  | ((with_reducible apply enu_l); walk_at "u")
  | ((with_reducible apply to_som); walk_at "u")
  | ((with_reducible apply to_non); walk_at "u")
  | ((with_reducible apply eo_som); walk_at "u")
  | ((with_reducible apply eo_non); walk_at "u")
  | ((with_reducible apply wf_cons); (focus (walk_at "s")); walk_at "u")
  | ((with_reducible apply wf_nil); (focus (walk_at "s")); walk_at "u")
  | ((with_reducible apply wc_cons); (focus (walk_at "s")); walk_at "u")
  | ((with_reducible apply wc_nil); (focus (walk_at "s")); walk_at "u")
  | ((with_reducible apply r_lstS); (focus (exact rfl)); walk_at "u")
  | ((with_reducible apply r_lstN); (focus (exact rfl)); walk_at "u")
  | ((with_reducible apply o_isNN); walk_at "u")
  | ((with_reducible apply o_isN); (focus (exact rfl)); walk_at "u")
  | ((with_reducible apply o_isB); walk_at "u")
  | ((with_reducible apply o_max2); walk_at "u")
  | ((with_reducible apply o_min2); walk_at "u")
  | ((with_reducible apply o_slL); walk_at "u")
  | ((with_reducible apply o_slT); walk_at "u")
  | ((with_reducible apply o_revL); walk_at "u")
  | ((with_reducible apply set_go); (focus (exact rfl)); (focus (decide)); (focus (exact rfl)); walk_at "u")
  | ((with_reducible apply app_go); (focus (exact rfl)); (focus (decide)); (focus (walk_at "s")); walk_at "u")
  | skip)
local macro_rules | `(tactic| walk_at "ku") => `(tactic| fail "no spec")
local macro_rules | `(tactic| walk_at "a") => `(tactic| (with_reducible apply ss_go); (with_reducible apply ss_cons); (with_reducible apply s_asg))
local macro_rules | `(tactic| walk_at "cu") => `(tactic| (apply enterR); (focus (exact rfl)); (focus (walk_at "f")); (focus (walk_at "ev")); (focus ((intro R hR); walk_at "u")))
local macro_rules | `(tactic| walk_at "s1") => `(tactic| (with_reducible apply ss_go); (with_reducible apply ss_cons))
theorem f9 : Nf.fac 9999999967 = [(9999999967, 1)] := by decide +kernel
theorem fsq : Nf.fac 9998200081 = [(99991, 2)] := by decide +kernel
theorem fpr : Nf.fac 9998000099 = [(99989, 1), (99991, 1)] := by decide +kernel
theorem fmany : Nf.fac 6983776800 = [(2, 5), (3, 3), (5, 2), (7, 1), (11, 1), (13, 1), (17, 1), (19, 1)] := by decide +kernel
def ten (j : Nat) : Bool := (Nf.prodI Nf.gCnt (Nf.fac (10 ^ (10 - j))) == (11 - (j : Int)) * (11 - (j : Int))) && ((Nf.fac (10 ^ (10 - j)) == if j < 10 then [(2, 10 - j), (5, 10 - j)] else []) && ((10 : Int) ^ 10).fdiv (10 ^ j) == ((10 ^ (10 - j) : Nat) : Int))
theorem tens : ((List.range 11).all ten) = true := by decide +kernel
theorem nmK {n : Int} (h : (decide (1 ≤ n) && decide (n ≤ 10000000000)) = true) : Nm n := by
  rw [Bool.and_eq_true] at h
  exact ⟨of_decide_eq_true h.1, of_decide_eq_true h.2⟩
theorem sp_law_number {k : Nat} (hk : 3 ≤ k) {s : List D} (hc : Cup s) {Q : Sl → List Sl → Prop} (hQ : ∀ (s' : List D) (n : Int), Cup s' → Nm n → Q (.val (.int n)) [.own .bor s']) : stp (wCall fns k 28 [.own .bor s] Q) := by
  obtain ⟨k, rfl⟩ := Nat.exists_eq_add_of_le' hk
  walk_at "c"
  refine sp_roll (by omega) hc (by omega) (by omega) fun s1 w c1 w0 w1 => ?_
  walk_at "w"
  refine sp_some (by omega) c1 (of_decide_eq_true rfl) (of_decide_eq_true rfl) fun s2 d c2 m2 => ?_
  obtain ⟨z, rfl, z1, z2⟩ : ∃ z : Int, d = .int z ∧ 1 ≤ z ∧ z ≤ 100000 := by
    simp only [List.mem_cons, List.not_mem_nil, or_false] at m2
    rcases m2 with rfl | rfl | rfl
    · exact ⟨20, rfl, by decide, by decide⟩
    · exact ⟨1000, rfl, by decide, by decide⟩
    · exact ⟨100000, by kernel_rfl, by decide, by decide⟩
  walk_at "w"
  refine brI (fun h => ?_) (fun h => ?_)
  · walk_at "w"
    refine sp_roll (by omega) c2 (by omega) (by omega) fun s3 a c3 a0 a1 => ?_
    walk_at "w"
    exact hQ _ _ c3 ⟨by omega, by omega⟩
  · walk_at "w"
    refine brI (fun h => ?_) (fun h => ?_)
    · walk_at "w"
      refine wLoop_run (fun m e => ∃ (s' : List D) (f : Int), e = [.own .bor s', .val (.int w), .val (.int z), .val (.int f), .no, .no, .no] ∧ Cup s' ∧ 1 ≤ f ∧ f ≤ 13 * z ∧ m = (13 * z - f).toNat) ?_ (m := (13 * z - 1).toNat) ⟨s2, 1, rfl, c2, by decide, by omega, rfl⟩
      rintro m e ⟨s', f, rfl, c', f1, f2, rfl⟩ n next
      walk_at "w"
      refine brI (fun h2 => ?_) (fun h2 => ?_)
      · have h2 := of_decide_eq_true h2
        walk_at "w"
        refine sp_some (by omega) c' (of_decide_eq_true rfl) (of_decide_eq_true rfl) fun s4 d4 c4 m4 => ?_
        obtain ⟨y, rfl, y1, y2⟩ : ∃ z : Int, d4 = .int z ∧ 2 ≤ z ∧ z ≤ 13 := by
          simp only [List.mem_cons, List.not_mem_nil, or_false] at m4
          rcases m4 with rfl | rfl | rfl | rfl | rfl | rfl | rfl | rfl <;> exact ⟨_, rfl, by decide, by decide⟩
        have bf : Bd 64 f := .of (by omega)
        have byy : Bd 64 y := .of (by omega)
        have i1 : IntMulOk f y := mulOk bf byy (by omega)
        have g1 : f * 2 ≤ f * y := Int.mul_le_mul_of_nonneg_left y1 (by omega)
        have g2 : f * y ≤ f * 13 := Int.mul_le_mul_of_nonneg_left y2 (by omega)
        walk_at "w"
        exact next _ _ (by omega) ⟨_, _, rfl, c4, by omega, by omega, rfl⟩
      · walk_at "w"
        exact hQ _ _ c' ⟨by omega, by omega⟩
    · walk_at "w"
      refine brI (fun h => ?_) (fun h => ?_)
      · walk_at "w"
        refine sp_some (by omega) c2 (of_decide_eq_true rfl) (of_decide_eq_true rfl) fun s4 d4 c4 m4 => ?_
        obtain ⟨y, rfl, y1, y2⟩ : ∃ z : Int, d4 = .int z ∧ 2 ≤ z ∧ z ≤ 9973 := by
          simp only [List.mem_cons, List.not_mem_nil, or_false] at m4
          rcases m4 with rfl | rfl | rfl | rfl | rfl | rfl | rfl <;> exact ⟨_, rfl, by decide, by decide⟩
        walk_at "w"
        refine sp_roll (by omega) c4 (by omega) (by omega) fun s5 a c5 a0 a1 => ?_
        walk_at "w"
        have e10 : (10 : Int) ^ Int.toNat 10 = 10000000000 := by decide +kernel
        refine dFor_run (fun l e => ∃ (f : Int) (x5 : Sl), e = [.own .bor s5, .val (.int w), .val (.int z), .val (.int f), .val (.int y), x5, .no] ∧ freeSl (some x5) ∧ 1 ≤ f ∧ f ≤ 10000000000) ?_ ?_ ⟨1, _, rfl, trivial, by decide, by decide⟩
        · rintro e ⟨f, x5, rfl, f5, g0, g1⟩
          walk_at "w"
          exact hQ _ _ c5 ⟨g0, g1⟩
        · rintro x xs e ⟨f, x5, rfl, f5, g0, g1⟩ next
          have bf : Bd 64 f := .of (by omega)
          have byy : Bd 64 y := .of (by omega)
          have i1 : IntMulOk f y := mulOk bf byy (by omega)
          have g2 : 1 * 1 ≤ f * y := Int.mul_le_mul g0 (by omega) (by omega) (by omega)
          walk_at "w"
          refine brI (fun h4 => ?_) (fun h4 => ?_)
          · have h4 := of_decide_eq_true h4
            rw [e10] at h4
            walk_at "w"
            exact next _ ⟨_, _, rfl, trivial, by omega, h4⟩
          · walk_at "w"
            exact next _ ⟨_, _, rfl, trivial, g0, g1⟩
      · walk_at "w"
        refine brI (fun h => ?_) (fun h => ?_)
        · walk_at "w"
          refine sp_roll (by omega) c2 (by omega) (by omega) fun s5 a c5 a0 a1 => ?_
          walk_at "w"
          refine sp_roll (by omega) c5 (by omega) (by omega) fun s6 b c6 b0 b1 => ?_
          have g1 : a * (1 + b) ≤ 1000 * 1000 := Int.mul_le_mul (by omega) (by omega) (by omega) (by omega)
          have g0 : 0 ≤ a * (1 + b) := Int.mul_nonneg (by omega) (by omega)
          have ba : Bd 64 a := .of (by omega)
          have bb : Bd 64 (1 + b) := .of (by omega)
          have i1 : IntMulOk a (1 + b) := mulOk ba bb (by omega)
          walk_at "w"
          exact hQ _ _ c6 ⟨by omega, by omega⟩
        · walk_at "w"
          refine sp_roll (by omega) c2 (by omega) (by omega) fun s5 a c5 a0 a1 => ?_
          generalize hA : 1 + a = A at *
          have bA : Bd 64 A := .of (by omega)
          have i1 : IntMulOk A A := mulOk bA bA (by omega)
          have g1 : A * A ≤ 1000 * 1000 := Int.mul_le_mul (by omega) (by omega) (by omega) (by omega)
          have hAA : (1 + a) * (1 + a) = A * A := by rw [hA]
          have g0 : 1 * 1 ≤ A * A := Int.mul_le_mul (by omega) (by omega) (by omega) (by omega)
          walk_at "w"
          refine sp_roll (by omega) c5 (by omega) (by omega) fun s6 b c6 b0 b1 => ?_
          walk_at "w"
          exact hQ _ _ c6 ⟨by omega, by omega⟩
end K03

set_option Elab.async false
set_option linter.all false
set_option maxRecDepth 100000
set_option maxHeartbeats 0
set_option exponentiation.threshold 4000
namespace K03
open PySem PySem.Spec PyProof.Rows L2 DL
local macro_rules | `(tactic| walk_at "bd") => `(tactic| repeat' (first
  | with_reducible assumption
  | with_reducible apply Bd.add
  | with_reducible apply Bd.sub
  | with_reducible apply Bd.mul
  | with_reducible apply Bd.neg
  | with_reducible apply Bd.fdiv
  | ((with_reducible apply Bd.fmod); (focus (first | decide | omega)))
  | with_reducible apply Bd.abs
  | exact Bd.lit (by decide) (by decide)
  | exact Bd.lit (by omega) (by omega)
  | exact Bd.lit2 (by decide) (by decide)))
local macro_rules | `(tactic| walk_at "pl") => `(tactic| first
  | with_reducible exact plN
  | ((with_reducible refine plC ?_ ?_); (focus (first | exact (show plainSl _ from True.intro) | exact (show plainSl _ from by assumption))); walk_at "pl"))
local macro_rules | `(tactic| walk_at "fl") => `(tactic| first
  | with_reducible exact flN
  | ((with_reducible refine flC ?_ ?_); (focus (first | exact (show freeSl _ from True.intro) | exact (show freeSl _ from by assumption))); walk_at "fl"))
local macro_rules | `(tactic| walk_at "s") => `(tactic| first
  | exact (show hasSl _ _ from True.intro)
  | exact (show freeSl _ from True.intro)
  | exact (show stillW _ _ from True.intro)
  | exact (show stillW _ _ from rfl)
  | exact (show freeSl _ from by assumption)
  | walk_at "pl"
  | walk_at "fl"
  | ((with_reducible apply mulR); exact Bd.lit (by decide) (by decide))
  | ((with_reducible apply mulL); exact Bd.lit (by decide) (by decide))
  | ((with_reducible apply mulOk); (focus (walk_at "bd")); (focus (walk_at "bd")); (focus (decide)))
  | exact (show CPow _ _ from ⟨by decide, by decide, by decide⟩)
  | ((with_reducible apply divOk) <;> first | decide | assumption | omega)
  | with_reducible assumption
  | exact ⟨rfl, rfl⟩
  | exact Nat.le_of_ble_eq_true rfl
  | exact of_decide_eq_true rfl
  | rfl
  | decide
  | omega)
local macro_rules | `(tactic| walk_at "ev") => `(tactic| first
  | exact ev_nil rfl
  | ((apply ev_cons); (focus (exact rfl)); (focus (conv => lhs; whnf)); walk_at "ev"))
local macro_rules | `(tactic| walk_at "bl") => `(tactic| first
  | exact bl_nil rfl
  | ((apply bl_cons); (focus (exact rfl)); (focus (conv => lhs; whnf)); walk_at "bl"))
local macro_rules | `(tactic| walk_at "gO") => `(tactic| first
  | ((with_reducible apply r_oV); (focus (walk_at "s")); walk_at "w")
  | ((with_reducible apply r_oE); (focus (exact rfl)); walk_at "w"))
local macro_rules | `(tactic| walk_at "gP") => `(tactic| first
  | ((with_reducible apply r_lend); (focus (exact rfl)); (focus (walk_at "ev")); walk_at "w")
  | ((with_reducible apply r_oP); (focus (exact rfl)); walk_at "w"))
local macro_rules | `(tactic| walk_at "gE") => `(tactic| first
  | ((with_reducible apply r_bin); walk_at "w")
  | ((with_reducible apply r_ix); walk_at "w")
  | ((with_reducible apply r_c); walk_at "w")
  | ((with_reducible apply r_vv); (focus (exact rfl)); walk_at "w")
  | ((with_reducible apply r_call); (focus (walk_at "bl")); walk_at "w")
  | ((with_reducible apply r_tup); walk_at "w")
  | ((with_reducible apply r_lst); walk_at "w")
  | ((with_reducible apply r_g); walk_at "w")
  | ((with_reducible apply r_neg); walk_at "w")
  | ((with_reducible apply r_cmp); walk_at "w")
  | ((with_reducible apply r_chain); walk_at "w")
  | ((with_reducible apply r_chain3); walk_at "w")
  | ((with_reducible apply r_isc); walk_at "w")
  | ((with_reducible apply r_and); walk_at "w")
  | ((with_reducible apply r_or); walk_at "w")
  | ((with_reducible apply r_not); walk_at "w")
  | ((with_reducible apply r_ite); walk_at "w")
  | ((with_reducible apply r_sl); walk_at "w")
  | ((with_reducible apply r_rev); walk_at "w")
  | ((with_reducible apply r_isi); walk_at "w")
  | ((with_reducible apply r_bi2); walk_at "w")
  | ((with_reducible apply r_lc); walk_at "w")
  | ((with_reducible apply r_list); walk_at "w")
  | ((with_reducible apply r_vo); (focus (exact rfl)); walk_at "w")
  | ((with_reducible apply r_vs); (focus (exact rfl)); walk_at "w")
  | ((with_reducible apply r_bi1); (focus (decide)); walk_at "w"))
local macro_rules | `(tactic| walk_at "gT") => `(tactic| first
  | ((with_reducible apply t_cmp); walk_at "w")
  | ((with_reducible apply t_and); walk_at "w")
  | ((with_reducible apply t_or); walk_at "w")
  | ((with_reducible apply t_not); walk_at "w")
  | ((with_reducible apply t_chain); walk_at "w")
  | ((with_reducible apply t_chain3); walk_at "w")
  | ((with_reducible apply t_isc); walk_at "w")
  | ((with_reducible apply t_isi); walk_at "w")
  | ((with_reducible apply t_bi1); walk_at "w")
  | ((with_reducible apply t_ix); walk_at "w")
  | ((with_reducible apply t_call); walk_at "w")
  | ((with_reducible apply t_bin); walk_at "w")
  | ((with_reducible apply t_v); (focus (exact rfl)); walk_at "w"))
local macro_rules | `(tactic| walk_at "gS") => `(tactic| first
  | ((with_reducible apply s_asg); walk_at "w")
  | ((with_reducible apply s_asgT); walk_at "w")
  | ((with_reducible apply s_par); walk_at "w")
  | ((with_reducible apply s_ex); walk_at "w")
  | ((with_reducible apply s_ite); walk_at "w")
  | ((with_reducible apply s_ret); (focus (exact rfl)); walk_at "w")
  | ((with_reducible apply s_ret0); walk_at "w")
  | ((with_reducible apply s_whl); walk_at "w")
  | ((with_reducible apply s_for); walk_at "w")
  | ((with_reducible apply s_pass); walk_at "w")
  | ((with_reducible apply s_brk); walk_at "w")
  | ((with_reducible apply s_cnt); walk_at "w")
  | ((with_reducible apply s_retV); (focus (exact rfl)); walk_at "w")
  | ((with_reducible apply s_retO); (focus (exact rfl)); walk_at "w")
  | ((with_reducible apply s_set); (focus (exact rfl)); walk_at "w")
  | ((with_reducible apply s_app); (focus (exact rfl)); walk_at "w"))
local macro_rules | `(tactic| walk_at "gSs") => `(tactic| first
  | ((with_reducible apply ss_cons); walk_at "w")
  | ((with_reducible apply ss_nil); walk_at "w"))
local macro_rules | `(tactic| walk_at "gBin") => `(tactic| first
  | ((with_reducible apply o_addI); walk_at "w")
  | ((with_reducible apply o_mulI); (focus (walk_at "s")); walk_at "w")
  | ((with_reducible apply o_subI); walk_at "w")
  | ((with_reducible apply o_fdivI); (focus (walk_at "s")); walk_at "w")
  | ((with_reducible apply o_modI); (focus (walk_at "s")); walk_at "w")
  | ((with_reducible apply o_powI); (focus (walk_at "s")); walk_at "w")
  | ((with_reducible apply o_addL); (focus (walk_at "s")); walk_at "w")
  | ((with_reducible apply o_addT); (focus (walk_at "s")); walk_at "w")
  | ((with_reducible apply o_mulT); (focus (exact ⟨(fun h => by cases h), by decide, by decide, by decide⟩)); walk_at "w")
  | ((with_reducible apply o_mulL); (focus (first | exact ⟨by decide, by decide, by decide⟩ | exact ⟨by omega, by omega, by simp; omega⟩)); walk_at "w"))
local macro_rules | `(tactic| walk_at "gCmp") => `(tactic| first
  | ((with_reducible apply o_eqI); walk_at "w")
  | ((with_reducible apply o_neI); walk_at "w")
  | ((with_reducible apply o_ltI); walk_at "w")
  | ((with_reducible apply o_leI); walk_at "w")
  | ((with_reducible apply o_gtI); walk_at "w")
  | ((with_reducible apply o_geI); walk_at "w")
  | ((with_reducible apply o_eq); (focus (walk_at "s")); walk_at "w")
  | ((with_reducible apply o_ne); (focus (walk_at "s")); walk_at "w")
  | ((with_reducible apply o_inT); (focus (walk_at "s")); walk_at "w")
  | ((with_reducible apply o_ninT); (focus (walk_at "s")); walk_at "w")
  | ((with_reducible apply o_inL); (focus (walk_at "s")); walk_at "w")
  | ((with_reducible apply o_ninL); (focus (walk_at "s")); walk_at "w"))
local macro_rules | `(tactic| walk_at "gTru") => `(tactic| first
  | ((with_reducible apply o_truB); walk_at "w")
  | ((with_reducible apply o_truI); walk_at "w")
  | ((with_reducible apply o_truL); walk_at "w")
  | ((with_reducible apply o_truT); walk_at "w")
  | ((with_reducible apply o_truN); walk_at "w"))
local macro_rules | `(tactic| walk_at "gBi1") => `(tactic| first
  | ((with_reducible apply o_lenL); walk_at "w")
  | ((with_reducible apply o_lenT); walk_at "w")
  | ((with_reducible apply o_abs); walk_at "w")
  | ((with_reducible apply o_int); walk_at "w")
  | ((with_reducible apply o_listL); walk_at "w")
  | ((with_reducible apply o_listT); walk_at "w")
  | ((with_reducible apply o_tupL); walk_at "w")
  | ((with_reducible apply o_tupT); walk_at "w"))
local macro_rules | `(tactic| walk_at "gStp") => `(tactic| first
  | ((with_reducible apply dx_list); (focus (exact rfl)); walk_at "w")
  | ((with_reducible apply dx_tup); (focus (exact rfl)); walk_at "w")
  | ((with_reducible apply ss_go); walk_at "w")
  | walk_at "k")
local macro_rules | `(tactic| walk_at "gBr") => `(tactic| first
  | ((with_reducible refine brT ?_ ?_); (focus (exact rfl)); walk_at "w")
  | ((with_reducible refine brF ?_ ?_); (focus (exact rfl)); walk_at "w"))
local macro_rules | `(tactic| walk_at "w") => `(tactic| first
  | ((with_reducible apply gO); walk_at "gO")
  | ((with_reducible apply gP); walk_at "gP")
  | ((with_reducible apply gE); walk_at "gE")
  | ((with_reducible apply r_at); (focus (walk_at "ev")); walk_at "w")
  | ((with_reducible apply r_oD); walk_at "w")
  | ((with_reducible refine And.intro ?_ ?_); (focus (walk_at "s")); walk_at "w")
  | ((with_reducible apply gSs); walk_at "gSs")
  | ((with_reducible apply gS); walk_at "gS")
  | ((with_reducible apply gT); walk_at "gT")
  | ((with_reducible apply gBin); walk_at "gBin")
  | ((with_reducible apply gCmp); walk_at "gCmp")
  | ((with_reducible apply gTru); walk_at "gTru")
  | ((with_reducible apply gBr); walk_at "gBr")
  | ((with_reducible apply gStp); walk_at "gStp")
  | ((with_reducible apply es_cons); walk_at "w")
  | ((with_reducible apply es_nil); walk_at "w")
  | ((with_reducible apply as_nil); walk_at "w")
  | ((with_reducible apply as_val); walk_at "w")
  | ((with_reducible apply as_ref); (focus (walk_at "s")); walk_at "w")
  | ((with_reducible apply gBi1); walk_at "gBi1")
  | ((with_reducible apply b_n); (focus (walk_at "s")); walk_at "w")
  | ((with_reducible apply b_t); walk_at "w")
  | ((with_reducible apply bs_cons); walk_at "w")
  | ((with_reducible apply bs_nil); walk_at "w")
  | ((with_reducible apply rs_cons); walk_at "w")
  | ((with_reducible apply rs_nil); walk_at "w")
  | ((with_reducible apply Rt_go); (focus (with_reducible assumption)); (focus (walk_at "ev")); walk_at "w")
  | ((with_reducible apply wl_succ); walk_at "w")
  | ((with_reducible apply it_e); walk_at "w")
  | ((with_reducible apply it_rng1); walk_at "w")
  | ((with_reducible apply it_rng2); walk_at "w")
  | ((with_reducible apply it_zip); walk_at "w")
  | ((with_reducible apply zip_l); walk_at "w")
  | ((with_reducible apply zip_t); walk_at "w")
  | ((with_reducible apply it_enum); walk_at "w")
  | ((with_reducible apply enu_l); walk_at "w")
  | ((with_reducible apply to_som); walk_at "w")
  | ((with_reducible apply to_non); walk_at "w")
  | ((with_reducible apply eo_som); walk_at "w")
  | ((with_reducible apply eo_non); walk_at "w")
  | ((with_reducible apply wf_cons); (focus (walk_at "s")); walk_at "w")
  | ((with_reducible apply wf_nil); (focus (walk_at "s")); walk_at "w")
  | ((with_reducible apply wc_cons); (focus (walk_at "s")); walk_at "w")
  | ((with_reducible apply wc_nil); (focus (walk_at "s")); walk_at "w")
  | ((with_reducible apply r_lstS); (focus (exact rfl)); walk_at "w")
  | ((with_reducible apply r_lstN); (focus (exact rfl)); walk_at "w")
  | ((with_reducible apply o_isNN); walk_at "w")
  | ((with_reducible apply o_isN); (focus (exact rfl)); walk_at "w")
  | ((with_reducible apply o_isB); walk_at "w")
  | ((with_reducible apply o_max2); walk_at "w")
  | ((with_reducible apply o_min2); walk_at "w")
  | ((with_reducible apply o_slL); walk_at "w")
  | ((with_reducible apply o_slT); walk_at "w")
  | ((with_reducible apply o_revL); walk_at "w")
  | ((with_reducible apply set_go); (focus (exact rfl)); (focus (decide)); (focus (exact rfl)); walk_at "w")
  | ((with_reducible apply app_go); (focus (exact rfl)); (focus (decide)); (focus (walk_at "s")); walk_at "w")
  | skip)
local macro_rules | `(tactic| walk_at "f") => `(tactic| (conv => whnf); first
  | exact True.intro
  | ((refine And.intro True.intro ?_); walk_at "f"))
local macro_rules | `(tactic| walk_at "c") => `(tactic| (apply enterR); (focus (exact rfl)); (focus (walk_at "f")); (focus (walk_at "ev")); (focus ((intro R hR); walk_at "w")))
local macro_rules | `(tactic| walk_at "o") => `(tactic| (first | with_reducible apply wc_openI | with_reducible apply wc_openV | with_reducible apply wf_openI | with_reducible apply wf_openV); (focus (walk_at "ev")); walk_at "w")
local macro_rules | `(tactic| walk_at "p") => `(tactic| (first | with_reducible apply wc_keepI | with_reducible apply wc_keepV | with_reducible apply wf_keepI | with_reducible apply wf_keepV); (focus (walk_at "ev")))
local macro_rules | `(tactic| walk_at "k") => `(tactic| fail "no spec")
local macro_rules | `(tactic| walk_at "lx") => `(tactic| first
  | exact lv_nil rfl
  | ((apply lv_cons); (focus (exact rfl)); (focus (conv => lhs; whnf)); walk_at "lx"))
local macro_rules | `(tactic| walk_at "oo") => `(tactic| (first | with_reducible apply wc_openLI | with_reducible apply wc_openLV | with_reducible apply wf_openLI | with_reducible apply wf_openLV); (focus (walk_at "ev")); (focus (walk_at "lx")); walk_at "w")
local macro_rules | `(tactic| walk_at "uO") => `(tactic| first
  | ((with_reducible apply r_oV); (focus (walk_at "s")); walk_at "u")
  | ((with_reducible apply r_oE); (focus (exact rfl)); walk_at "u"))
local macro_rules | `(tactic| walk_at "uP") => `(tactic| first
  | ((with_reducible apply r_lend); (focus (exact rfl)); (focus (walk_at "ev")); walk_at "u")
  | ((with_reducible apply r_oP); (focus (exact rfl)); walk_at "u"))
local macro_rules | `(tactic| walk_at "uE") => `(tactic| first
  | ((with_reducible apply r_bin); walk_at "u")
  | ((with_reducible apply r_ix); walk_at "u")
  | ((with_reducible apply r_c); walk_at "u")
  | ((with_reducible apply r_vv); (focus (exact rfl)); walk_at "u")
  | ((with_reducible apply r_call); (focus (walk_at "bl")); walk_at "u")
  | ((with_reducible apply r_tup); walk_at "u")
  | ((with_reducible apply r_lst); walk_at "u")
  | ((with_reducible apply r_g); walk_at "u")
  | ((with_reducible apply r_neg); walk_at "u")
  | ((with_reducible apply r_cmp); walk_at "u")
  | ((with_reducible apply r_chain); walk_at "u")
  | ((with_reducible apply r_chain3); walk_at "u")
  | ((with_reducible apply r_isc); walk_at "u")
  | ((with_reducible apply r_and); walk_at "u")
  | ((with_reducible apply r_or); walk_at "u")
  | ((with_reducible apply r_not); walk_at "u")
  | ((with_reducible apply r_ite); walk_at "u")
  | ((with_reducible apply r_sl); walk_at "u")
  | ((with_reducible apply r_rev); walk_at "u")
  | ((with_reducible apply r_isi); walk_at "u")
  | ((with_reducible apply r_bi2); walk_at "u")
  | ((with_reducible apply r_lc); walk_at "u")
  | ((with_reducible apply r_list); walk_at "u")
  | ((with_reducible apply r_vo); (focus (exact rfl)); walk_at "u")
  | ((with_reducible apply r_vs); (focus (exact rfl)); walk_at "u")
  | ((with_reducible apply r_bi1); (focus (decide)); walk_at "u"))
local macro_rules | `(tactic| walk_at "uT") => `(tactic| first
  | ((with_reducible apply t_cmp); walk_at "u")
  | ((with_reducible apply t_and); walk_at "u")
  | ((with_reducible apply t_or); walk_at "u")
  | ((with_reducible apply t_not); walk_at "u")
  | ((with_reducible apply t_chain); walk_at "u")
  | ((with_reducible apply t_chain3); walk_at "u")
  | ((with_reducible apply t_isc); walk_at "u")
  | ((with_reducible apply t_isi); walk_at "u")
  | ((with_reducible apply t_bi1); walk_at "u")
  | ((with_reducible apply t_ix); walk_at "u")
  | ((with_reducible apply t_call); walk_at "u")
  | ((with_reducible apply t_bin); walk_at "u")
  | ((with_reducible apply t_v); (focus (exact rfl)); walk_at "u"))
local macro_rules | `(tactic| walk_at "uS") => `(tactic| first
  | ((with_reducible apply s_asg); walk_at "u")
  | ((with_reducible apply s_asgT); walk_at "u")
  | ((with_reducible apply s_par); walk_at "u")
  | ((with_reducible apply s_ex); walk_at "u")
  | ((with_reducible apply s_ite); walk_at "u")
  | ((with_reducible apply s_ret); (focus (exact rfl)); walk_at "u")
  | ((with_reducible apply s_ret0); walk_at "u")
  | ((with_reducible apply s_whl); walk_at "u")
  | ((with_reducible apply s_for); walk_at "u")
  | ((with_reducible apply s_pass); walk_at "u")
  | ((with_reducible apply s_brk); walk_at "u")
  | ((with_reducible apply s_cnt); walk_at "u")
  | ((with_reducible apply s_retV); (focus (exact rfl)); walk_at "u")
  | ((with_reducible apply s_retO); (focus (exact rfl)); walk_at "u")
  | ((with_reducible apply s_set); (focus (exact rfl)); walk_at "u")
  | ((with_reducible apply s_app); (focus (exact rfl)); walk_at "u"))
local macro_rules | `(tactic| walk_at "uSs") => `(tactic| first
  | ((with_reducible apply ss_cons); walk_at "u")
  | ((with_reducible apply ss_nil); walk_at "u"))
local macro_rules | `(tactic| walk_at "uBin") => `(tactic| first
  | ((with_reducible apply o_addI); walk_at "u")
  | ((with_reducible apply o_mulI); (focus (walk_at "s")); walk_at "u")
  | ((with_reducible apply o_subI); walk_at "u")
  | ((with_reducible apply o_fdivI); (focus (walk_at "s")); walk_at "u")
  | ((with_reducible apply o_modI); (focus (walk_at "s")); walk_at "u")
  | ((with_reducible apply o_powI); (focus (walk_at "s")); walk_at "u")
  | ((with_reducible apply o_addL); (focus (walk_at "s")); walk_at "u")
  | ((with_reducible apply o_addT); (focus (walk_at "s")); walk_at "u")
  | ((with_reducible apply o_mulT); (focus (exact ⟨(fun h => by cases h), by decide, by decide, by decide⟩)); walk_at "u")
  | ((with_reducible apply o_mulL); (focus (first | exact ⟨by decide, by decide, by decide⟩ | exact ⟨by omega, by omega, by simp; omega⟩)); walk_at "u"))
local macro_rules | `(tactic| walk_at "uCmp") => `(tactic| first
  | ((with_reducible apply o_eqI); walk_at "u")
  | ((with_reducible apply o_neI); walk_at "u")
  | ((with_reducible apply o_ltI); walk_at "u")
  | ((with_reducible apply o_leI); walk_at "u")
  | ((with_reducible apply o_gtI); walk_at "u")
  | ((with_reducible apply o_geI); walk_at "u")
  | ((with_reducible apply o_eq); (focus (walk_at "s")); walk_at "u")
  | ((with_reducible apply o_ne); (focus (walk_at "s")); walk_at "u")
  | ((with_reducible apply o_inT); (focus (walk_at "s")); walk_at "u")
  | ((with_reducible apply o_ninT); (focus (walk_at "s")); walk_at "u")
  | ((with_reducible apply o_inL); (focus (walk_at "s")); walk_at "u")
  | ((with_reducible apply o_ninL); (focus (walk_at "s")); walk_at "u"))
local macro_rules | `(tactic| walk_at "uTru") => `(tactic| first
  | ((with_reducible apply o_truB); walk_at "u")
  | ((with_reducible apply o_truI); walk_at "u")
  | ((with_reducible apply o_truL); walk_at "u")
  | ((with_reducible apply o_truT); walk_at "u")
  | ((with_reducible apply o_truN); walk_at "u"))
local macro_rules | `(tactic| walk_at "uBi1") => `(tactic| first
  | ((with_reducible apply o_lenL); walk_at "u")
  | ((with_reducible apply o_lenT); walk_at "u")
  | ((with_reducible apply o_abs); walk_at "u")
  | ((with_reducible apply o_int); walk_at "u")
  | ((with_reducible apply o_listL); walk_at "u")
  | ((with_reducible apply o_listT); walk_at "u")
  | ((with_reducible apply o_tupL); walk_at "u")
  | ((with_reducible apply o_tupT); walk_at "u"))
local macro_rules | `(tactic| walk_at "uStp") => `(tactic| first
  | ((with_reducible apply dx_list); (focus (exact rfl)); walk_at "u")
  | ((with_reducible apply dx_tup); (focus (exact rfl)); walk_at "u")
  | walk_at "ku")
local macro_rules | `(tactic| walk_at "uBr") => `(tactic| first
  | ((with_reducible refine brT ?_ ?_); (focus (exact rfl)); walk_at "u")
  | ((with_reducible refine brF ?_ ?_); (focus (exact rfl)); walk_at "u"))
local macro_rules | `(tactic| walk_at "u") => `(tactic| first
  | ((with_reducible apply gO); walk_at "uO")
  | ((with_reducible apply gP); walk_at "uP")
  | ((with_reducible apply gE); walk_at "uE")
  | ((with_reducible apply r_at); (focus (walk_at "ev")); walk_at "u")
  | ((with_reducible apply r_oD); walk_at "u")
  | ((with_reducible refine And.intro ?_ ?_); (focus (walk_at "s")); walk_at "u")
  | ((with_reducible apply gSs); walk_at "uSs")
  | ((with_reducible apply gS); walk_at "uS")
  | ((with_reducible apply gT); walk_at "uT")
  | ((with_reducible apply gBin); walk_at "uBin")
  | ((with_reducible apply gCmp); walk_at "uCmp")
  | ((with_reducible apply gTru); walk_at "uTru")
  | ((with_reducible apply gBr); walk_at "uBr")
  | ((with_reducible apply gStp); walk_at "uStp")
  | ((with_reducible apply es_cons); walk_at "u")
  | ((with_reducible apply es_nil); walk_at "u")
  | ((with_reducible apply as_nil); walk_at "u")
  | ((with_reducible apply as_val); walk_at "u")
  | ((with_reducible apply as_ref); (focus (walk_at "s")); walk_at "u")
  | ((with_reducible apply gBi1); walk_at "uBi1")
  | ((with_reducible apply b_n); (focus (walk_at "s")); walk_at "u")
  | ((with_reducible apply b_t); walk_at "u")
  | ((with_reducible apply bs_cons); walk_at "u")
  | ((with_reducible apply bs_nil); walk_at "u")
  | ((with_reducible apply rs_cons); walk_at "u")
  | ((with_reducible apply rs_nil); walk_at "u")
  | ((with_reducible apply Rt_go); (focus (with_reducible assumption)); (focus (walk_at "ev")); walk_at "u")
  | ((with_reducible apply wl_succ); walk_at "u")
  | ((with_reducible apply it_e); walk_at "u")
  | ((with_reducible apply it_rng1); walk_at "u")
  | ((with_reducible apply it_rng2); walk_at "u")
  | ((with_reducible apply it_zip); walk_at "u")
  | ((with_reducible apply zip_l); walk_at "u")
  | ((with_reducible apply zip_t); walk_at "u")
  | ((with_reducible apply it_enum); walk_at "u")
  | ((with_reducible apply enu_l); walk_at "u")
  | ((with_reducible apply to_som); walk_at "u")
  | ((with_reducible apply to_non); walk_at "u")
  | ((with_reducible apply eo_som); walk_at "u")
  | ((with_reducible apply eo_non); walk_at "u")
  | ((with_reducible apply wf_cons); (focus (walk_at "s")); walk_at "u")
  | ((with_reducible apply wf_nil); (focus (walk_at "s")); walk_at "u")
  | ((with_reducible apply wc_cons); (focus (walk_at "s")); walk_at "u")
  | ((with_reducible apply wc_nil); (focus (walk_at "s")); walk_at "u")
  | ((with_reducible apply r_lstS); (focus (exact rfl)); walk_at "u")
  | ((with_reducible apply r_lstN); (focus (exact rfl)); walk_at "u")
  | ((with_reducible apply o_isNN); walk_at "u")
  | ((with_reducible apply o_isN); (focus (exact rfl)); walk_at "u")
  | ((with_reducible apply o_isB); walk_at "u")
  | ((with_reducible apply o_max2); walk_at "u")
  | ((with_reducible apply o_min2); walk_at "u")
  | ((with_reducible apply o_slL); walk_at "u")
  | ((with_reducible apply o_slT); walk_at "u")
  | ((with_reducible apply o_revL); walk_at "u")
  | ((with_reducible apply set_go); (focus (exact rfl)); (focus (decide)); (focus (exact rfl)); walk_at "u")
  | ((with_reducible apply app_go); (focus (exact rfl)); (focus (decide)); (focus (walk_at "s")); walk_at "u")
  | skip)
local macro_rules | `(tactic| walk_at "ku") => `(tactic| fail "no spec")
local macro_rules | `(tactic| walk_at "a") => `(tactic| (with_reducible apply ss_go); (with_reducible apply ss_cons); (with_reducible apply s_asg))
local macro_rules | `(tactic| walk_at "cu") => `(tactic| (apply enterR); (focus (exact rfl)); (focus (walk_at "f")); (focus (walk_at "ev")); (focus ((intro R hR); walk_at "u")))
local macro_rules | `(tactic| walk_at "s1") => `(tactic| (with_reducible apply ss_go); (with_reducible apply ss_cons))
theorem e9 : fa 9999999967 = [(9999999967, 1)] := f9
theorem p9 : isP (9999999967 : Int).toNat = true := by
  unfold isP
  rw [show Nf.fac (9999999967 : Int).toNat = _ from f9]
  decide +kernel
theorem t9 : Nf.prodI Nf.gPhi (fa 9999999967) = 9999999966 := by
  rw [e9]
  decide +kernel
theorem n9 : Nm 9999999967 := nmK (by decide)
theorem nS : Nm (99991 * 99991) := nmK (by decide)
theorem nR : Nm (99989 * 99991) := nmK (by decide)
theorem nM : Nm 6983776800 := nmK (by decide)
theorem eS : fa (99991 * 99991) = [(99991, 2)] := fsq
theorem eR : fa (99989 * 99991) = [(99989, 1), (99991, 1)] := fpr
theorem eM : fa 6983776800 = [(2, 5), (3, 3), (5, 2), (7, 1), (11, 1), (13, 1), (17, 1), (19, 1)] := fmany
theorem pS : isP (99991 * 99991 : Int).toNat = false := by
  unfold isP
  rw [show Nf.fac (99991 * 99991 : Int).toNat = _ from fsq]
  decide +kernel
theorem sS1 : Nf.prodI Nf.gRt (fa (99991 * 99991)) = 99991 := by
  rw [eS]
  decide +kernel
theorem sS2 : Nf.prodI Nf.gRs (fa (99991 * 99991)) = 1 := by
  rw [eS]
  decide +kernel
theorem mR : Nf.prodI Nf.gMu (fa (99989 * 99991)) = 1 := by
  rw [eR]
  decide +kernel
theorem cM : Nf.prodI Nf.gCnt (fa 6983776800) = 2304 := by
  rw [eM]
  decide +kernel
theorem kM : ((Nf.cntN (fa 6983776800) : Nat) : Int) = 2304 := by
  rw [eM]
  decide +kernel
theorem sM1 : Nf.prodI Nf.gRt (fa 6983776800) = 60 := by
  rw [eM]
  decide +kernel
theorem sM2 : Nf.prodI Nf.gRs (fa 6983776800) = 1939938 := by
  rw [eM]
  decide +kernel
theorem len_dv (n : Int) : ((Nf.isort (Nf.dvs (fa n))).map PyData.int).length = Nf.cntN (fa n) := by
  rw [List.length_map, (Nf.isort_perm _).length_eq, Nf.dvs_len]
theorem sp_law_written {k : Nat} (hk : 13 ≤ k) {s : List D} (hc : Cup s) {Q : Sl → List Sl → Prop} (hQ : ∀ s' : List D, Cup s' → Q (.val (.bool true)) [.own .bor s']) : stp (wCall fns k 25 [.own .bor s] Q) := by
  obtain ⟨k, rfl⟩ := Nat.exists_eq_add_of_le' hk
  have n1 : Nm 1 := nmK (by decide)
  have n2 : Nm 2 := nmK (by decide)
  have n12 : Nm 12 := nmK (by decide)
  have n30 : Nm 30 := nmK (by decide)
  have n49 : Nm 49 := nmK (by decide)
  have n210 : Nm 210 := nmK (by decide)
  have n360 : Nm 360 := nmK (by decide)
  walk_at "c"
  refine sp_is_prime_number (by omega) n1 ?_
  walk_at "w"
  refine sp_factors_of (by omega) n360 ?_
  walk_at "w"
  refine sp_factors_of (by omega) n1 ?_
  walk_at "w"
  refine sp_divisors_of (by omega) n12 ?_
  walk_at "w"
  refine sp_count_divisors (by omega) n360 ?_
  walk_at "w"
  refine sp_sum_of_divisors (by omega) n360 ?_
  walk_at "w"
  refine sp_totient_of (by omega) n360 ?_
  walk_at "w"
  refine sp_same (by kernel_rfl) (by kernel_rfl) (by decide +kernel) (by omega) ?_
  walk_at "w"
  walk_at "o"
  refine sp_moebius_of (by omega) n1 ?_
  walk_at "w"
  refine sp_moebius_of (by omega) n2 ?_
  walk_at "w"
  refine sp_moebius_of (by omega) n12 ?_
  walk_at "w"
  refine sp_moebius_of (by omega) n30 ?_
  walk_at "w"
  refine sp_moebius_of (by omega) n210 ?_
  walk_at "w"
  refine sp_split_square (by omega) n360 ?_
  walk_at "w"
  refine sp_split_square (by omega) n49 ?_
  walk_at "w"
  refine sp_totient_of (by omega) n1 ?_
  walk_at "w"
  refine sp_divisors_of (by omega) n1 ?_
  walk_at "w"
  refine sp_same (by kernel_rfl) (by kernel_rfl) (by decide +kernel) (by omega) ?_
  walk_at "w"
  refine sp_roll (by omega) hc (by omega) (by omega) fun s1 P c1 P0 P1 => ?_
  obtain ⟨j, hj⟩ : ∃ j : Nat, P = j := ⟨P.toNat, by omega⟩
  have hj10 : j ≤ 10 := by omega
  have tj := List.all_eq_true.mp tens j (List.mem_range.mpr (by omega))
  unfold ten at tj
  simp only [Bool.and_eq_true, beq_iff_eq] at tj
  obtain ⟨t1, t2, t3⟩ := tj
  obtain ⟨T, hT⟩ : ∃ T : Int, T = ((10 ^ (10 - j) : Nat) : Int) := ⟨_, rfl⟩
  have nT : Nm T := by
    have h1 : 10 ^ (10 - j) ≤ 10 ^ 10 := Nat.pow_le_pow_right (by decide) (by omega)
    have h2 : 0 < 10 ^ (10 - j) := Nat.pow_pos (by decide)
    have e : 10 ^ 10 = 10000000000 := by decide
    exact ⟨by omega, by omega⟩
  have eF : fa T = Nf.fac (10 ^ (10 - j)) := by
    show Nf.fac T.toNat = _
    rw [hT, Int.toNat_natCast]
  walk_at "u"
  walk_at "a"
  refine cutE0 (.val (.int T)) ?_ ?_
  · have hcs : P = 0 ∨ P = 1 ∨ P = 2 ∨ P = 3 ∨ P = 4 ∨ P = 5 ∨ P = 6 ∨ P = 7 ∨ P = 8 ∨ P = 9 ∨ P = 10 := by omega
    rcases hcs with h | h | h | h | h | h | h | h | h | h | h
    · subst h
      have ej : j = 0 := by omega
      subst ej
      walk_at "w"
      exact ⟨congrArg (fun i => Sl.val (PyData.int i)) (by rw [hT]; decide +kernel), rfl⟩
    · subst h
      have ej : j = 1 := by omega
      subst ej
      walk_at "w"
      exact ⟨congrArg (fun i => Sl.val (PyData.int i)) (by rw [hT]; decide +kernel), rfl⟩
    · subst h
      have ej : j = 2 := by omega
      subst ej
      walk_at "w"
      exact ⟨congrArg (fun i => Sl.val (PyData.int i)) (by rw [hT]; decide +kernel), rfl⟩
    · subst h
      have ej : j = 3 := by omega
      subst ej
      walk_at "w"
      exact ⟨congrArg (fun i => Sl.val (PyData.int i)) (by rw [hT]; decide +kernel), rfl⟩
    · subst h
      have ej : j = 4 := by omega
      subst ej
      walk_at "w"
      exact ⟨congrArg (fun i => Sl.val (PyData.int i)) (by rw [hT]; decide +kernel), rfl⟩
    · subst h
      have ej : j = 5 := by omega
      subst ej
      walk_at "w"
      exact ⟨congrArg (fun i => Sl.val (PyData.int i)) (by rw [hT]; decide +kernel), rfl⟩
    · subst h
      have ej : j = 6 := by omega
      subst ej
      walk_at "w"
      exact ⟨congrArg (fun i => Sl.val (PyData.int i)) (by rw [hT]; decide +kernel), rfl⟩
    · subst h
      have ej : j = 7 := by omega
      subst ej
      walk_at "w"
      exact ⟨congrArg (fun i => Sl.val (PyData.int i)) (by rw [hT]; decide +kernel), rfl⟩
    · subst h
      have ej : j = 8 := by omega
      subst ej
      walk_at "w"
      exact ⟨congrArg (fun i => Sl.val (PyData.int i)) (by rw [hT]; decide +kernel), rfl⟩
    · subst h
      have ej : j = 9 := by omega
      subst ej
      walk_at "w"
      exact ⟨congrArg (fun i => Sl.val (PyData.int i)) (by rw [hT]; decide +kernel), rfl⟩
    · subst h
      have ej : j = 10 := by omega
      subst ej
      walk_at "w"
      exact ⟨congrArg (fun i => Sl.val (PyData.int i)) (by rw [hT]; decide +kernel), rfl⟩
  have q1 : Nf.prodI Nf.gCnt (fa T) = (11 - P) * (11 - P) := by rw [eF, t1, hj]
  have q3 : ((Nf.cntN (fa T) : Nat) : Int) = (11 - P) * (11 - P) := by rw [← Nf.cnt_int, q1]
  have bP : Bd 64 (11 - P) := .of (by omega)
  have iP : IntMulOk (11 - P) (11 - P) := mulOk bP bP (by omega)
  walk_at "w"
  refine sp_count_divisors (by omega) nT ?_
  walk_at "w"
  refine sp_factors_of (by omega) nT ?_
  walk_at "w"
  refine sp_divisors_of (by omega) nT ?_
  walk_at "w"
  rw [len_dv, q3, q1]
  have main : ∀ Q' : Sl → List Sl → Prop, ∀ d : D, d = .tuple ((fa T).map Nf.dP) → Q' (.val (.bool true)) [.no, .no] → stp (wCall fns (k + 12) 18 [.val (.list [.int ((11 - P) * (11 - P)), .tuple ((fa T).map Nf.dP), .int ((11 - P) * (11 - P))]), .val (.list [.int ((11 - P) * (11 - P)), d, .int ((11 - P) * (11 - P))])] Q') := fun Q' d hd q => by
    subst hd
    have a3 : Any 3 (.list [.int ((11 - P) * (11 - P)), .tuple ((fa T).map Nf.dP), .int ((11 - P) * (11 - P))]) := Any.list fun x hx => by
      simp only [List.mem_cons, List.not_mem_nil, or_false] at hx
      rcases hx with rfl | rfl | rfl
      · exact Any.int _
      · exact any_dPt
      · exact Any.int _
    exact sp_same rfl a3.lay (Nat.le_trans a3.dep (by decide)) (by omega) q
  refine brI (fun h => ?_) (fun h => ?_)
  all_goals
    walk_at "w"
    refine main _ _ ?_ ?_
    · rw [eF, t2]
      first
        | (rw [if_pos (show j < 10 by have := of_decide_eq_true h; omega)]
           show PyData.tuple [.tuple [.int 2, .int (10 - P)], .tuple [.int 5, .int (10 - P)]] = .tuple [.tuple [.int 2, .int ((10 - j : Nat) : Int)], .tuple [.int 5, .int ((10 - j : Nat) : Int)]]
           rw [show ((10 - j : Nat) : Int) = 10 - P by omega])
        | (rw [if_neg (show ¬ j < 10 by have := of_decide_eq_false h; omega)]
           rfl)
    walk_at "w"
    refine sp_roll (by omega) c1 (by omega) (by omega) fun s2 w c2 w0 w1 => ?_
    walk_at "w"
    refine brI (fun hw => ?_) (fun hw => ?_)
    · walk_at "w"
      refine sp_is_prime_number (by omega) n9 ?_
      walk_at "w"
      refine sp_factors_of (by omega) n9 ?_
      walk_at "w"
      refine sp_totient_of (by omega) n9 ?_
      rw [p9, t9, e9]
      walk_at "w"
      refine sp_same (by kernel_rfl) (by kernel_rfl) (by decide +kernel) (by omega) ?_
      walk_at "w"
      exact hQ _ c2
    · walk_at "w"
      refine brI (fun hw1 => ?_) (fun hw1 => ?_)
      · walk_at "w"
        refine sp_factors_of (by omega) nS ?_
        walk_at "w"
        refine sp_is_prime_number (by omega) nS ?_
        walk_at "w"
        refine sp_split_square (by omega) nS ?_
        walk_at "w"
        refine sp_factors_of (by omega) nR ?_
        walk_at "w"
        refine sp_moebius_of (by omega) nR ?_
        rw [pS, sS1, sS2, mR, eS, eR]
        walk_at "w"
        refine sp_same (by kernel_rfl) (by kernel_rfl) (by decide +kernel) (by omega) ?_
        walk_at "w"
        exact hQ _ c2
      · walk_at "w"
        refine brI (fun hw2 => ?_) (fun hw2 => ?_)
        · walk_at "w"
          refine sp_count_divisors (by omega) nM ?_
          walk_at "w"
          refine sp_factors_of (by omega) nM ?_
          walk_at "w"
          refine sp_divisors_of (by omega) nM ?_
          walk_at "w"
          rw [len_dv]
          walk_at "w"
          refine sp_split_square (by omega) nM ?_
          rw [cM, kM, sM1, sM2, eM]
          walk_at "w"
          refine sp_same (by kernel_rfl) (by kernel_rfl) (by decide +kernel) (by omega) ?_
          walk_at "w"
          exact hQ _ c2
        · walk_at "w"
          refine brI (fun hw3 => ?_) (fun hw3 => ?_)
          · walk_at "w"
            rw [hw3]
            exact hQ _ c2
          · have ex : (10 : Int) ^ Int.toNat 9 = 1000000000 := by decide +kernel
            walk_at "w"
            refine sp_roll (by omega) c2 (by rw [ex]; decide) (by rw [ex]; decide) fun s3 r c3 r0 r1 => ?_
            rw [ex] at r1
            have nL : Nm (10 ^ Int.toNat 9 + r) := ⟨by rw [ex]; omega, by rw [ex]; omega⟩
            walk_at "w"
            refine sp_law_right (by omega) nL ?_
            walk_at "w"
            exact hQ _ c3
theorem main : ∀ ns : List Int, ns.length ≤ 63 → wCall fns 40 29 [.scr ns] (fun r _ => r = .val (.bool true)) := by
  intro ns hn
  refine stp_get ?_
  walk_at "c"
  refine sp_cup (by omega) hn fun s0 c0 => ?_
  walk_at "w"
  refine dFor_run (fun l e => ∃ (s' : List D) (x2 : Sl), e = [.scr ns, .own .free s', x2] ∧ freeSl (some x2) ∧ Cup s') ?_ ?_ ⟨s0, _, rfl, trivial, c0⟩
  · rintro e ⟨s, x2, rfl, f2, cs⟩
    walk_at "w"
    refine sp_law_small_right (by omega) cs fun s1 c1 => ?_
    walk_at "w"
    refine sp_law_written (by omega) c1 fun s2 c2 => ?_
    walk_at "w"
    rfl
  · rintro x xs e ⟨s, x2, rfl, f2, cs⟩ next
    walk_at "w"
    refine sp_law_number (by omega) cs fun s1 n c1 hn => ?_
    walk_at "w"
    refine sp_law_right (by omega) hn ?_
    walk_at "w"
    refine sp_law_products_right (by omega) c1 fun s2 c2 => ?_
    walk_at "w"
    exact next _ ⟨_, _, rfl, trivial, c2⟩
end K03

set_option Elab.async false
set_option linter.all false
set_option maxRecDepth 100000
set_option maxHeartbeats 0
theorem PySem.Challenge.cw_formsalike_k03_whole_factors_and_divisor_holds : PySem.Challenge.rw_formsalike_k03_whole_factors_and_divisor.Holds :=
  K03.holds K03.main
