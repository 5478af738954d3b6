import PyProof.Rows.All
import Wide.All
import OpenK.AllK
import Wide.FinOn
import HandS.ForMost
import HandS.ForExc
import HandS.Walk
import HandS.Wide
import HandS.CallSlots
import HandS.TupAny
import HandS.SortInts
import HandS.IsInst
import HandS.Conv
import HandS.Zip
import KE.KDictZip
import HandS.Style
import PyProof.ReprRoads
import HandS.RaiseMore
import HandS.Small
import PySem.Challenge.RW_defended_k60_values_and_reach
section
set_option Elab.async false
set_option linter.all false
set_option maxRecDepth 100000
/-! PV1: a small language of pure data (D), its codes (C, S) and what they answer (evE, evS, cf). No heap. -/
namespace PV
open PySem

/-- pure data: what a Python value tells -/
inductive D where
  | non | bl (b : Bool) | int (i : Int) | str (s : Str)
  | tup (ds : List D) | lst (ds : List D) | dct (ks vs : List D)
  | ins (c : Nat) (fs : List D) | fn (k : Nat) | unset
instance : Inhabited D := ⟨.non⟩

/-- who holds it: told for good; a list or dict of one's own, its items likewise; an object of one's own, its fields likewise -/
inductive W where
  | frz | own (w : W) | obj (c : Nat) (ws : List W)

/-- an exception: its class, its fields -/
structure XD where
  c : Nat
  fs : List D

mutual
def W.same : W → W → Bool
  | .frz, .frz => true
  | .own a, .own b => W.same a b
  | .obj c xs, .obj d ys => decide (c = d) && W.sames xs ys
  | _, _ => false
def W.sames : List W → List W → Bool
  | [], [] => true
  | x :: xs, y :: ys => W.same x y && W.sames xs ys
  | _, _ => false
end
mutual
theorem W.same_eq : ∀ a b : W, W.same a b = true → a = b
  | .frz, b, h => by cases b <;> simp [W.same] at h ⊢
  | .own a, b, h => by
    cases b <;> simp only [W.same, Bool.false_eq_true] at h
    rw [W.same_eq _ _ h]
  | .obj c xs, b, h => by
    cases b <;> simp only [W.same, Bool.false_eq_true, Bool.and_eq_true, decide_eq_true_eq] at h
    rw [h.1, W.sames_eq _ _ h.2]
theorem W.sames_eq : ∀ a b : List W, W.sames a b = true → a = b
  | [], b, h => by cases b <;> simp [W.sames] at h ⊢
  | x :: xs, b, h => by
    cases b <;> simp only [W.sames, Bool.false_eq_true, Bool.and_eq_true] at h
    rw [W.same_eq _ _ h.1, W.sames_eq _ _ h.2]
end
mutual
theorem W.same_refl : ∀ a : W, W.same a a = true
  | .frz => rfl
  | .own a => by simp only [W.same]; exact W.same_refl a
  | .obj c xs => by simp only [W.same, decide_true, Bool.true_and]; exact W.sames_refl xs
theorem W.sames_refl : ∀ a : List W, W.sames a a = true
  | [] => rfl
  | x :: xs => by simp only [W.sames, W.same_refl x, Bool.true_and]; exact W.sames_refl xs
end
instance : DecidableEq W := fun a b => if h : W.same a b = true then isTrue (W.same_eq a b h) else isFalse fun e => h (e ▸ W.same_refl a)
abbrev Env := List (Option (W × D))

theorem nr {α : Sort _} {a b : α} (h : a = b) : a = b := h
inductive R (ε α : Type) where
  | ok (a : α) | exc (x : XD) (e : ε) | stuck
def R.bind {ε α β : Type} : R ε α → (α → R ε β) → R ε β
  | .ok a, f => f a
  | .exc x e, _ => .exc x e
  | .stuck, _ => .stuck
@[simp] theorem R.bind_ok {ε α β : Type} (a : α) (f : α → R ε β) : (R.ok a : R ε α).bind f = f a := nr rfl
@[simp] theorem R.bind_exc {ε α β : Type} (x : XD) (e : ε) (f : α → R ε β) : (R.exc x e : R ε α).bind f = .exc x e := nr rfl
@[simp] theorem R.bind_stuck {ε α β : Type} (f : α → R ε β) : (R.stuck : R ε α).bind f = .stuck := nr rfl
/-- of an option -/
def R.of {ε α : Type} : Option α → R ε α
  | some a => .ok a
  | none => .stuck
@[simp] theorem R.of_some {ε α : Type} (a : α) : (R.of (some a) : R ε α) = .ok a := nr rfl
@[simp] theorem R.of_none {ε α : Type} : (R.of (none : Option α) : R ε α) = .stuck := nr rfl

/-! ### operations on data -/
mutual
/-- Python's == of plain data -/
def D.eqv : D → D → Bool
  | .non, .non => true
  | .bl a, .bl b => a == b
  | .bl a, .int j => decide ((if a then 1 else 0) = j)
  | .int i, .bl b => decide (i = (if b then 1 else 0))
  | .int i, .int j => decide (i = j)
  | .str x, .str y => decide (x = y)
  | .lst xs, .lst ys => D.eqvs xs ys
  | .tup xs, .tup ys => D.eqvs xs ys
  | _, _ => false
def D.eqvs : List D → List D → Bool
  | [], [] => true
  | x :: xs, y :: ys => D.eqv x y && D.eqvs xs ys
  | _, _ => false
end
mutual
/-- no dict, object or function in it, at most n deep, texts of signs -/
def D.okd : Nat → D → Bool
  | _, .non => true
  | _, .bl _ => true
  | _, .int _ => true
  | _, .str x => PyData.strOk x
  | 0, _ => false
  | n + 1, .tup ds => D.okds n ds
  | n + 1, .lst ds => D.okds n ds
  | _, _ => false
def D.okds : Nat → List D → Bool
  | _, [] => true
  | n, d :: ds => D.okd n d && D.okds n ds
end
mutual
/-- the same data -/
def D.same : D → D → Bool
  | .non, .non => true
  | .bl a, .bl b => a == b
  | .int i, .int j => decide (i = j)
  | .str x, .str y => decide (x = y)
  | .tup xs, .tup ys => D.sames xs ys
  | .lst xs, .lst ys => D.sames xs ys
  | .dct xs us, .dct ys vs => D.sames xs ys && D.sames us vs
  | .ins c xs, .ins d ys => decide (c = d) && D.sames xs ys
  | .fn k, .fn l => decide (k = l)
  | .unset, .unset => true
  | _, _ => false
def D.sames : List D → List D → Bool
  | [], [] => true
  | x :: xs, y :: ys => D.same x y && D.sames xs ys
  | _, _ => false
end
mutual
theorem D.same_iff : ∀ a b : D, D.same a b = true ↔ a = b
  | .non, b => by cases b <;> simp [D.same]
  | .bl x, b => by cases b <;> simp [D.same]
  | .int x, b => by cases b <;> simp [D.same]
  | .str x, b => by cases b <;> simp [D.same]
  | .tup xs, b => by
    cases b <;> simp only [D.same, reduceCtorEq, D.tup.injEq, Bool.false_eq_true]
    exact D.sames_iff _ _
  | .lst xs, b => by
    cases b <;> simp only [D.same, reduceCtorEq, D.lst.injEq, Bool.false_eq_true]
    exact D.sames_iff _ _
  | .dct xs us, b => by
    cases b <;> simp only [D.same, reduceCtorEq, D.dct.injEq, Bool.false_eq_true, Bool.and_eq_true]
    exact and_congr (D.sames_iff _ _) (D.sames_iff _ _)
  | .ins c xs, b => by
    cases b <;> simp only [D.same, reduceCtorEq, D.ins.injEq, Bool.false_eq_true, Bool.and_eq_true, decide_eq_true_eq]
    exact and_congr Iff.rfl (D.sames_iff _ _)
  | .fn k, b => by cases b <;> simp [D.same]
  | .unset, b => by cases b <;> simp [D.same]
theorem D.sames_iff : ∀ a b : List D, D.sames a b = true ↔ a = b
  | [], b => by cases b <;> simp [D.sames]
  | x :: xs, b => by
    cases b <;> simp only [D.sames, reduceCtorEq, List.cons.injEq, Bool.false_eq_true, Bool.and_eq_true]
    exact and_congr (D.same_iff _ _) (D.sames_iff _ _)
end
instance : DecidableEq D := fun a b => if h : D.same a b = true then isTrue ((D.same_iff a b).mp h) else isFalse fun e => h ((D.same_iff a b).mpr e)

/-- may stand as a key: an int, a text -/
def D.keyS : D → Bool
  | .int _ => true
  | .str _ => true
  | _ => false
/-- place of a key -/
def keyAt : List D → D → Option Nat
  | [], _ => none
  | x :: xs, k => if D.same x k then some 0 else (keyAt xs k).map (· + 1)
def putK (ks vs : List D) (k v : D) : List D × List D :=
  match keyAt ks k with
  | some i => (ks, vs.set i v)
  | none => (ks ++ [k], vs ++ [v])
def putAll : List D → List D → List D → List D → List D × List D
  | ks, vs, [], _ => (ks, vs)
  | ks, vs, _, [] => (ks, vs)
  | ks, vs, k :: r, v :: s => let p := putK ks vs k v; putAll p.1 p.2 r s

/-- Python's places, of a number of items -/
def seqIx (i : Int) (n : Nat) : Option Nat := L2.ixN n i
def cut {α : Type} (xs : List α) (lo hi : Option Int) : List α := (xs.drop (HT.sIx xs.length 0 lo)).take (HT.sIx xs.length xs.length hi - HT.sIx xs.length 0 lo)
def lim : Nat := 16777216
def mulOk (i j : Int) : Bool := (decide (-18446744073709551616 < i) && decide (i < 18446744073709551616)) || (decide (-18446744073709551616 < j) && decide (j < 18446744073709551616))

def optI : D → Option (Option Int)
  | .non => some none
  | .int i => some (some i)
  | _ => none
def intsD : List D → Option (List Int)
  | [] => some []
  | .int i :: r => (intsD r).map (i :: ·)
  | _ => none
def boolsD : List D → Option (List Bool)
  | [] => some []
  | .bl b :: r => (boolsD r).map (b :: ·)
  | _ => none
def strsD : List D → Option (List Str)
  | [] => some []
  | .str b :: r => (strsD r).map (b :: ·)
  | _ => none
def pairs : List D → Option (List D × List D)
  | [] => some ([], [])
  | .tup [k, v] :: r => (pairs r).map fun p => (k :: p.1, v :: p.2)
  | _ => none
/-- a key, its value, a key, .. -/
def evens : List D → Option (List D × List D)
  | [] => some ([], [])
  | k :: v :: r => (evens r).map fun p => (k :: p.1, v :: p.2)
  | _ => none
def enumFrom : Nat → List D → List D
  | _, [] => []
  | n, d :: r => .tup [.int (n : Nat), d] :: enumFrom (n + 1) r
def zipD : List D → List D → List D
  | x :: xs, y :: ys => .tup [x, y] :: zipD xs ys
  | _, _ => []
def rangeD (lo : Int) : Nat → List D
  | 0 => []
  | n + 1 => .int lo :: rangeD (lo + 1) n
def maxI : Int → List Int → Int
  | a, [] => a
  | a, b :: r => maxI (if b > a then b else a) r
def minI : Int → List Int → Int
  | a, [] => a
  | a, b :: r => minI (if b < a then b else a) r
def insI (a : Int) : List Int → List Int
  | [] => [a]
  | b :: r => if a ≤ b then a :: b :: r else b :: insI a r
def sortI : List Int → List Int
  | [] => []
  | a :: r => insI a (sortI r)
/-- a bool, None: by truth; the others by their length -/
def D.truth : D → Option Bool
  | .non => some false
  | .bl b => some b
  | .int i => some (decide (i ≠ 0))
  | .str s => some (decide (s.length ≠ 0))
  | .tup ds => some (!ds.isEmpty)
  | .lst ds => some (!ds.isEmpty)
  | .dct ks _ => some (!ks.isEmpty)
  | _ => none

/-- the kinds that isinstance is asked of here -/
inductive Ty where
  | int | bool | str | list | tuple | dict
deriving DecidableEq
def D.isa : Ty → D → Option Bool
  | _, .fn _ => none
  | _, .ins _ _ => none
  | _, .unset => none
  | .int, .int _ => some true
  | .int, .bl _ => some true
  | .bool, .bl _ => some true
  | .str, .str _ => some true
  | .list, .lst _ => some true
  | .tuple, .tup _ => some true
  | .dict, .dct _ _ => some true
  | _, _ => some false

/-- operations whose answer hangs on their arguments' data alone -/
inductive P where
  | add | sub | mul | fdiv | mod | pow | neg | not
  | eq | ne | lt | le | gt | ge | isN | notN | isin | notin
  | item | slice | len | abs | int1 | max2 | min2 | max1 | min1 | sum | all | any
  | tuple | list | sorted | dictP | dictE | dictC | divmod | isa (ts : List Ty) | sum0 | rev | repr | dict1
deriving DecidableEq
def inD (x : D) (xs : List D) : Option Bool := some (xs.any fun y => D.eqv y x)
def D.items? : D → Option (List D)
  | .tup ds => some ds
  | .lst ds => some ds
  | _ => none
/-- == : scalars at once, others if they are plain -/
def eqD : D → D → Option Bool
  | .int i, .int j => some (decide (i = j))
  | .str x, .str y => some (decide (x = y))
  | .bl a, .bl b => some (decide (a = b))
  | .non, .non => some true
  | .non, .int _ => some false
  | .int _, .non => some false
  | .non, .bl _ => some false
  | .bl _, .non => some false
  | .non, .str _ => some false
  | .str _, .non => some false
  | .int _, .str _ => some false
  | .str _, .int _ => some false
  | .bl _, .str _ => some false
  | .str _, .bl _ => some false
  | a, b => if D.okd 60 a && D.okd 60 b then some (D.eqv a b) else none
def D.scalar : D → Bool
  | .non => true
  | .bl _ => true
  | .int _ => true
  | .str _ => true
  | _ => false
def run1 (f : D → Option D) : List D → Option D
  | [a] => f a
  | _ => none
def run2 (f : D → D → Option D) : List D → Option D
  | [a, b] => f a b
  | _ => none
def run3 (f : D → D → D → Option D) : List D → Option D
  | [a, b, c] => f a b c
  | _ => none
def addD : D → D → Option D
  | .int i, .int j => some (.int (i + j))
  | .str x, .str y => if x.length + y.length ≤ lim then some (.str (x ++ y)) else none
  | .tup xs, .tup ys => if xs.length + ys.length ≤ lim then some (.tup (xs ++ ys)) else none
  | .lst xs, .lst ys => if xs.length + ys.length ≤ lim then some (.lst (xs ++ ys)) else none
  | _, _ => none
def subD : D → D → Option D
  | .int i, .int j => some (.int (i - j))
  | _, _ => none
def mulD : D → D → Option D
  | .int i, .int j => if mulOk i j then some (.int (i * j)) else none
  | _, _ => none
def fdivD : D → D → Option D
  | .int i, .int j => if decide (0 < j) && decide (j < 1073741824) then some (.int (i / j)) else none
  | _, _ => none
def modD : D → D → Option D
  | .int i, .int j => if 0 < j then some (.int (i % j)) else none
  | _, _ => none
def powD : D → D → Option D
  | .int i, .int j => if decide (0 ≤ j) && decide (j ≤ 1000000) && decide (i.natAbs < 2 ^ 64) then some (.int (i ^ j.toNat)) else none
  | _, _ => none
def negD : D → Option D
  | .int i => some (.int (-i))
  | _ => none
def notD : D → Option D
  | .bl b => some (.bl (!b))
  | _ => none
def cmpD (f : Int → Int → Bool) : D → D → Option D
  | .int i, .int j => some (.bl (f i j))
  | _, _ => none
def D.isNon : D → Bool
  | .non => true
  | _ => false
def isND (a : D) : Option D := some (.bl a.isNon)
def notND (a : D) : Option D := some (.bl (!a.isNon))
def isinD (neg : Bool) : D → D → Option D
  | a, .tup ds => if D.scalar a && ds.all D.scalar then some (.bl (neg != ds.any fun y => D.eqv y a)) else none
  | a, .lst ds => if D.scalar a && ds.all D.scalar then some (.bl (neg != ds.any fun y => D.eqv y a)) else none
  | a, .dct ks _ => if D.keyS a then some (.bl (neg != (keyAt ks a).isSome)) else none
  | _, _ => none
def itemD : D → D → Option D
  | .tup ds, .int i => (seqIx i ds.length).bind fun k => ds[k]?
  | .lst ds, .int i => (seqIx i ds.length).bind fun k => ds[k]?
  | .dct ks vs, k => if D.keyS k then (keyAt ks k).bind fun i => vs[i]? else none
  | _, _ => none
def sliceD : D → D → D → Option D
  | .tup ds, lo, hi => (optI lo).bind fun a => (optI hi).bind fun b => some (.tup (cut ds a b))
  | .lst ds, lo, hi => (optI lo).bind fun a => (optI hi).bind fun b => some (.lst (cut ds a b))
  | _, _, _ => none
def lenD : D → Option D
  | .tup ds => some (.int ds.length)
  | .lst ds => some (.int ds.length)
  | .str s => if s.length ≤ lim then some (.int s.length) else none
  | .dct ks _ => some (.int ks.length)
  | _ => none
def absD : D → Option D
  | .int i => some (.int (if i < 0 then -i else i))
  | _ => none
def int1D : D → Option D
  | .int i => some (.int i)
  | .bl b => some (.int (if b then 1 else 0))
  | _ => none
def max2D : D → D → Option D
  | .int i, .int j => some (.int (if j > i then j else i))
  | _, _ => none
def min2D : D → D → Option D
  | .int i, .int j => some (.int (if j < i then j else i))
  | _, _ => none
def maxD : D → Option D
  | .lst (.int i :: r) => (intsD r).map fun ns => .int (maxI i ns)
  | _ => none
def minD : D → Option D
  | .lst (.int i :: r) => (intsD r).map fun ns => .int (minI i ns)
  | _ => none
def sumD : D → Option D
  | .lst ds => (intsD ds).map fun ns => .int ns.sum
  | _ => none
def allD : D → Option D
  | .lst ds => (boolsD ds).map fun bs => .bl (bs.all id)
  | _ => none
def anyD : D → Option D
  | .lst ds => (boolsD ds).map fun bs => .bl (bs.any id)
  | _ => none
def tupleD : D → Option D
  | .lst ds => some (.tup ds)
  | .tup ds => some (.tup ds)
  | _ => none
def listD : D → Option D
  | .lst ds => some (.lst ds)
  | .tup ds => some (.lst ds)
  | .dct ks _ => some (.lst ks)
  | _ => none
def sortedD : D → Option D
  | .lst ds => (intsD ds).map fun ns => .lst ((sortI ns).map .int)
  | _ => none
def dictPD : D → Option D
  | .lst ds => (pairs ds).bind fun p => if p.1.all D.keyS then (let q := putAll [] [] p.1 p.2; some (.dct q.1 q.2)) else none
  | _ => none
def dictED : D → Option D
  | .lst ds => let q := putAll [] [] (rangeD 0 ds.length) ds; some (.dct q.1 q.2)
  | _ => none
def dictCD : D → Option D
  | .dct ks vs => some (.dct ks vs)
  | _ => none
def divmodD : D → D → Option D
  | .int i, .int j => if decide (0 < j) && decide (j < 1073741824) then some (.tup [.int (i / j), .int (i % j)]) else none
  | _, _ => none
def isaD (ts : List Ty) (d : D) : Option D := (ts.mapM fun t => D.isa t d).map fun bs => .bl (bs.any id)
def get2D : D → D → D → Option D
  | .dct ks vs, k, x => if D.keyS k then some (((keyAt ks k).bind fun i => vs[i]?).getD x) else none
  | _, _, _ => none
mutual
def D.toP : D → PyData
  | .non => .none
  | .bl b => .bool b
  | .int i => .int i
  | .str s => .str s
  | .tup ds => .tuple (D.toPs ds)
  | .lst ds => .list (D.toPs ds)
  | _ => .dict []
def D.toPs : List D → List PyData
  | [] => []
  | d :: ds => D.toP d :: D.toPs ds
end
def revD : D → Option D
  | .lst ds => some (.lst ds.reverse)
  | _ => none
def dict1D : D → Option D
  | .lst ds => dictPD (.lst ds)
  | .dct ks vs => dictCD (.dct ks vs)
  | _ => none
/-- a text that shows it, if it is not too great -/
def D.isSeq : D → Bool
  | .tup _ => true
  | .lst _ => true
  | _ => false
def reprD (d : D) : Option D := if d.isSeq && D.okd 60 d && d.toP.showable && decide (d.toP.shown.length + 64 ≤ lim) then some (.str d.toP.shown) else none
def P.run : P → List D → Option D
  | .add => run2 addD
  | .sub => run2 subD
  | .mul => run2 mulD
  | .fdiv => run2 fdivD
  | .mod => run2 modD
  | .pow => run2 powD
  | .neg => run1 negD
  | .not => run1 notD
  | .eq => run2 fun a b => (eqD a b).map .bl
  | .ne => run2 fun a b => (eqD a b).map fun c => .bl (!c)
  | .lt => run2 (cmpD fun i j => decide (i < j))
  | .le => run2 (cmpD fun i j => decide (i ≤ j))
  | .gt => run2 (cmpD fun i j => decide (j < i))
  | .ge => run2 (cmpD fun i j => decide (j ≤ i))
  | .isN => run1 isND
  | .notN => run1 notND
  | .isin => run2 (isinD false)
  | .notin => run2 (isinD true)
  | .item => run2 itemD
  | .slice => run3 sliceD
  | .len => run1 lenD
  | .abs => run1 absD
  | .int1 => run1 int1D
  | .max2 => run2 max2D
  | .min2 => run2 min2D
  | .max1 => run1 maxD
  | .min1 => run1 minD
  | .sum => run1 sumD
  | .all => run1 allD
  | .any => run1 anyD
  | .tuple => run1 tupleD
  | .list => run1 listD
  | .sorted => run1 sortedD
  | .dictP => run1 dictPD
  | .dictE => run1 dictED
  | .dictC => run1 dictCD
  | .divmod => run2 divmodD
  | .isa ts => run1 (isaD ts)
  | .sum0 => run1 sumD
  | .rev => run1 revD
  | .repr => run1 reprD
  | .dict1 => run1 dict1D

/-! ### codes -/
/-- an expression, a list of them, what is walked, a target -/
inductive C where
  | var (i : Nat) | brw (i : Nat) (fs : List Nat) | io (i : Nat) (w : W) | lit (d : D)
  | prim (p : P) (as : C) | sl (a lo hi : C) | and (a b : C) | or (a b : C) | ite (t a b : C) | chain (p q : P) (a b c : C)
  | tup (as : C) | lst (as : C) | dct (kvs : C)
  | get (a k x : C) | call (f : Nat) (rw : W) (as : C) | callM (f : Nat) (rw w : W) (a as : C) | callK (f : Nat) (ks : List Nat) (as bs : C) | make (c : Nat) (w : W) (as : C)
  | comp (tg it : C) (cd : C) (elt : C) (own : List Nat)
  | pop (i : Nat) (fs : List Nat) | popAt (i : Nat) (fs : List Nat) (a : C)
  | nil | cons (a as : C)
  | itVal (a : C) | itRange1 (a : C) | itRange2 (a b : C) | itEnum (a : C) | itZip (a b : C)
  | tgName (i : Nat) | tgTup (ts : C)
  | stuck
deriving DecidableEq

inductive S where
  | skip | seq (a b : S) | asg (i : Nat) (e : C) | asgT (tg e : C) | par (i j : Nat) (a b : C) | par3 (i j k : Nat) (a b c : C) | ret (e : C) | retN
  | ife (t : C) (a b : S) | forIn (tg it : C) (body : S) | whil (t : C) (body : S) | expr (e : C)
  | setIx (i : Nat) (fs : List Nat) (ix e : C) | setFld (i : Nat) (fs : List Nat) (f : Nat) (e : C)
  | setIxT (i : Nat) (ix : C) (j : Nat) (e : C)
  | append (i : Nat) (fs : List Nat) (e : C) | extend (i : Nat) (fs : List Nat) (e : C)
  | brk | cont | raise (c : Nat) (as : C) | stuck
deriving DecidableEq

/-- what an operation's answer is held as, by whoever takes it: new lists and dicts are its own -/
def P.fresh : P → Bool
  | .add => true
  | .slice => true
  | .list => true
  | .sorted => true
  | .dictP => true
  | .dictE => true
  | .dictC => true
  | .rev => true
  | .dict1 => true
  | _ => false
def freshP (p : P) : D → W
  | .lst _ => if p.fresh then .own .frz else .frz
  | .dct _ _ => if p.fresh then .own .frz else .frz
  | _ => .frz
def freshW : C → D → W
  | .lst _, _ => .own .frz
  | .dct _, _ => .own .frz
  | .comp .., _ => .own .frz
  | .make _ w _, _ => w
  | .call _ w _, _ => w
  | .callM _ w _ _ _, _ => w
  | .prim p _, d => freshP p d
  | .sl .., d => freshP .slice d
  | _, _ => .frz
/-! ### slots -/
def getV (env : Env) (i : Nat) : Option D := match env[i]? with
  | some (some (_, d)) => some d
  | _ => none
def W.isFrz : W → Bool
  | .frz => true
  | _ => false
/-- it is told for good from now on -/
def frzAt (env : Env) (i : Nat) : Env := match env[i]? with
  | some (some (.frz, _)) => env
  | some (some (_, d)) => env.set i (some (.frz, d))
  | _ => env
def setV (env : Env) (i : Nat) (w : W) (d : D) : Env := env.set i (some (w, d))
/-- what stands at fields of it -/
def D.at : D → List Nat → Option D
  | d, [] => some d
  | .ins _ fs, f :: r => (fs[f]?).bind fun d => match d with | .unset => none | d => D.at d r
  | _, _ => none
def D.put : D → List Nat → D → Option D
  | _, [], x => some x
  | .ins c fs, f :: r, x => (fs[f]?).bind fun d => (D.put d r x).map fun d' => .ins c (fs.set f d')
  | _, _, _ => none
def W.at : W → List Nat → Option W
  | w, [] => some w
  | .obj _ ws, f :: r => (ws[f]?).bind fun w => W.at w r
  | _, _ => none
def readP (env : Env) (i : Nat) (fs : List Nat) : Option D := (getV env i).bind fun d => D.at d fs
/-- the same place, another thing of the same holding -/
def putP (env : Env) (i : Nat) (fs : List Nat) (x : D) : Option Env := match env[i]? with
  | some (some (w, d)) => (D.put d fs x).map fun d' => env.set i (some (w, d'))
  | _ => none
def wP (env : Env) (i : Nat) (fs : List Nat) : Option W := match env[i]? with
  | some (some (w, _)) => W.at w fs
  | _ => none
/-- one's own list or dict of things told for good, or such a thing -/
def W.flat : W → Bool
  | .frz => true
  | .own .frz => true
  | _ => false
/-- what is read for an operation -/
def readB (env : Env) (i : Nat) (fs : List Nat) : Option D := match env[i]? with
  | some (some (w, d)) => match W.at w fs with
    | some w' => if w'.flat then D.at d fs else none
    | none => none
  | _ => none
def wipeE (env : Env) : List Nat → Env
  | [] => env
  | i :: r => (wipeE env r).set i none
/-- slots of own as in env0 -/
def backE (env0 : Env) (env : Env) : List Nat → Env
  | [] => env
  | i :: r => (backE env0 env r).set i ((env0[i]?).getD none)
/-- a list's item, a dict's value at a key, told anew -/
def storeIx (env : Env) (i : Nat) (fs : List Nat) (k x : D) : Option Env := match wP env i fs, readP env i fs with
  | some (.own .frz), some (.lst ds) => match k with
    | .int n => (seqIx n ds.length).bind fun m => putP env i fs (.lst (ds.set m x))
    | _ => none
  | some (.own .frz), some (.dct ks vs) => if D.keyS k && decide (ks.length < lim) then (let p := putK ks vs k x; putP env i fs (.dct p.1 p.2)) else none
  | _, _ => none
mutual
def bindT : C → D → Env → Option Env
  | .tgName i, d, env => some (setV env i .frz d)
  | .tgTup ts, .tup ds, env => bindTs ts ds env
  | _, _, _ => none
def bindTs : C → List D → Env → Option Env
  | .nil, [], env => some env
  | .cons t ts, d :: ds, env => (bindT t d env).bind fun env' => bindTs ts ds env'
  | _, _, _ => none
end

/-! ### what an expression answers -/
/-- what is handed over, as it comes back -/
def ioSet : C → List D → Env → Env
  | .cons (.io i w) r, d :: ds, env => ioSet r ds (setV env i w d)
  | .cons _ r, _ :: ds, env => ioSet r ds env
  | _, _, env => env
/-- what slot i holds, held as w -/
def readIO (env : Env) (i : Nat) (w : W) : Option D := match env[i]? with
  | some (some (w', d)) => if W.same w' w then some d else none
  | _ => none
def compL (turn : D → Env → R Env (Option D × Env)) : List D → Env → List D → R Env (List D × Env)
  | [], env, acc => .ok (acc, env)
  | d :: ds, env, acc => (turn d env).bind fun p => match p.1 with
    | some x => if acc.length < lim then compL turn ds p.2 (acc ++ [x]) else .stuck
    | none => compL turn ds p.2 acc
/-- what a turn of a comprehension does -/
def compT (tc te : Env → R Env (D × Env)) (tg : C) (own : List Nat) : D → Env → R Env (Option D × Env) := fun d e => (R.of (bindT tg d e)).bind fun e1 => (tc e1).bind fun t => match t.1 with
  | .bl true => (te t.2).bind fun x => .ok (some x.1, wipeE x.2 own)
  | .bl false => .ok (none, wipeE t.2 own)
  | _ => .stuck
/-- nothing that is raised leaves it -/
def R.calm {ε α : Type} : R ε α → R ε α
  | .exc _ _ => .stuck
  | r => r

def C.isNil : C → Bool
  | .nil => true
  | _ => false
def toI (r : D × Env) : R Env (Option Int × Env) := match r.1 with
  | .int i => .ok (some i, r.2)
  | _ => .stuck
def ofI (o : Option Int) : D := o.elim .non .int
def permL {α : Type} (l : List α) : List Nat → Option (List α)
  | [] => some []
  | k :: r => (l[k]?).bind fun a => (permL l r).map (a :: ·)
abbrev CF := Nat → List D → R (List D) (D × List D)
mutual
def evE (cf mk : CF) : C → Env → R Env (D × Env)
  | .var i, env => match getV env i with
    | some d => .ok (d, frzAt env i)
    | none => .stuck
  | .lit d, env => .ok (d, env)
  | .prim p as, env => (evA cf mk as env).bind fun r => match p.run r.1 with
    | some d => .ok (d, r.2)
    | none => .stuck
  | .sl (.brw i []) lo hi, env => if (getV env i).isSome then
      (if lo.isNil then R.ok (none, env) else (evE cf mk lo env).bind toI).bind fun r1 => (if hi.isNil then R.ok (none, r1.2) else (evE cf mk hi r1.2).bind toI).bind fun r2 => match readB r2.2 i [] with
        | some d => match sliceD d (ofI r1.1) (ofI r2.1) with
          | some x => .ok (x, r2.2)
          | none => .stuck
        | none => .stuck
    else .stuck
  | .sl a lo hi, env => (evE cf mk a env).bind fun r0 =>
      (if lo.isNil then R.ok (none, r0.2) else (evE cf mk lo r0.2).bind toI).bind fun r1 => (if hi.isNil then R.ok (none, r1.2) else (evE cf mk hi r1.2).bind toI).bind fun r2 => match sliceD r0.1 (ofI r1.1) (ofI r2.1) with
        | some x => .ok (x, r2.2)
        | none => .stuck
  | .and a b, env => (evE cf mk a env).bind fun r => match r.1 with
    | .bl true => (evE cf mk b r.2).bind fun q => match q.1 with
      | .bl c => .ok (.bl c, q.2)
      | _ => .stuck
    | .bl false => .ok (.bl false, r.2)
    | _ => .stuck
  | .or a b, env => (evE cf mk a env).bind fun r => match r.1 with
    | .bl true => .ok (.bl true, r.2)
    | .bl false => (evE cf mk b r.2).bind fun q => match q.1 with
      | .bl c => .ok (.bl c, q.2)
      | _ => .stuck
    | _ => .stuck
  | .ite t a b, env => (evE cf mk t env).bind fun r => match r.1 with
    | .bl true => evE cf mk a r.2
    | .bl false => evE cf mk b r.2
    | _ => .stuck
  | .chain p q a b c, env => (evE cf mk a env).bind fun r1 => (evE cf mk b r1.2).bind fun r2 => match p.run [r1.1, r2.1] with
    | some (.bl true) => (evE cf mk c r2.2).bind fun r3 => match q.run [r2.1, r3.1] with
      | some (.bl k) => .ok (.bl k, r3.2)
      | _ => .stuck
    | some (.bl false) => .ok (.bl false, r2.2)
    | _ => .stuck
  | .tup as, env => (evV cf mk as env).bind fun r => if r.1.length ≤ lim then .ok (.tup r.1, r.2) else .stuck
  | .lst as, env => (evV cf mk as env).bind fun r => if r.1.length ≤ lim then .ok (.lst r.1, r.2) else .stuck
  | .dct as, env => (evV cf mk as env).bind fun r => match evens r.1 with
    | some p => if p.1.all D.keyS && decide (p.1.length ≤ 15) then (let q := putAll [] [] p.1 p.2; .ok (.dct q.1 q.2, r.2)) else .stuck
    | none => .stuck
  | .call f _ as, env => (evC cf mk as env).bind fun r => match cf f r.1 with
    | .ok (d, outs) => .ok (d, ioSet as outs r.2)
    | .exc x outs => .exc x (ioSet as outs r.2)
    | .stuck => .stuck
  | .callM f _ w a as, env => (evE cf mk a env).bind fun r0 => if W.same (freshW a r0.1) w then (evC cf mk as r0.2).bind fun r => match cf f (r0.1 :: r.1) with
    | .ok (d, outs) => .ok (d, ioSet as outs.tail r.2)
    | .exc x outs => .exc x (ioSet as outs.tail r.2)
    | .stuck => .stuck
    else .stuck
  | .get (.brw i []) k x, env => match readB env i [] with
    | some (.dct _ _) => (evE cf mk k env).bind fun r1 => (if x.isNil then R.ok (D.non, r1.2) else evE cf mk x r1.2).bind fun r2 => match readB r2.2 i [] with
      | some d => match get2D d r1.1 r2.1 with
        | some v => .ok (v, r2.2)
        | none => .stuck
      | none => .stuck
    | _ => .stuck
  | .get a k x, env => (evE cf mk a env).bind fun r0 => match r0.1 with
    | .dct ks vs => (evE cf mk k r0.2).bind fun r1 => (if x.isNil then R.ok (D.non, r1.2) else evE cf mk x r1.2).bind fun r2 => match get2D (.dct ks vs) r1.1 r2.1 with
      | some v => .ok (v, r2.2)
      | none => .stuck
    | _ => .stuck
  | .callK f ks as bs, env => (evV cf mk as env).bind fun r => (evV cf mk bs r.2).bind fun q => match permL (r.1 ++ q.1) ks with
    | some args => match cf f args with
      | .ok (d, _) => .ok (d, q.2)
      | .exc x _ => .exc x q.2
      | .stuck => .stuck
    | none => .stuck
  | .make c _ as, env => (evC cf mk as env).bind fun r => match mk c r.1 with
    | .ok (d, outs) => .ok (d, ioSet as outs r.2)
    | .exc x outs => .exc x (ioSet as outs r.2)
    | .stuck => .stuck
  | .comp tg it cd elt own, env => (evI cf mk it env).bind fun r =>
    ((compL (compT (evE cf mk cd) (evE cf mk elt) tg own) r.1 (wipeE r.2 own) []).calm).bind fun q => .ok (.lst q.1, backE r.2 q.2 own)
  | .pop i fs, env => match readP env i fs, wP env i fs with
    | some (.lst ds), some (.own .frz) => match ds.getLast? with
      | some d => (R.of (putP env i fs (.lst ds.dropLast))).bind fun env' => .ok (d, env')
      | none => .stuck
    | _, _ => .stuck
  | .popAt i fs a, env => match wP env i fs, readP env i fs with
    | some (.own .frz), some (.lst _) => (evE cf mk a env).bind fun r => match readP r.2 i fs, wP r.2 i fs, r.1 with
      | some (.lst ds), some (.own .frz), .int k => match if ds.length ≤ lim then seqIx k ds.length else none with
        | some n => match ds[n]? with
          | some d => (R.of (putP r.2 i fs (.lst (ds.eraseIdx n)))).bind fun env' => .ok (d, env')
          | none => .stuck
        | none => .stuck
      | _, _, _ => .stuck
    | _, _ => .stuck
  | _, _ => .stuck
/-- values for good, one by one -/
def evV (cf mk : CF) : C → Env → R Env (List D × Env)
  | .nil, env => .ok ([], env)
  | .cons a as, env => (evE cf mk a env).bind fun r => (evV cf mk as r.2).bind fun q => .ok (r.1 :: q.1, q.2)
  | _, _ => .stuck
/-- an operation's arguments: a name's or a field's thing is read behind the others -/
def evA (cf mk : CF) : C → Env → R Env (List D × Env)
  | .nil, env => .ok ([], env)
  | .cons (.brw i []) as, env => if (getV env i).isSome then (evA cf mk as env).bind fun q => match readB q.2 i [] with
    | some d => .ok (d :: q.1, q.2)
    | none => .stuck
    else .stuck
  | .cons a as, env => (evE cf mk a env).bind fun r => (evA cf mk as r.2).bind fun q => .ok (r.1 :: q.1, q.2)
  | _, _ => .stuck
/-- a def's arguments: what it may change is handed over as it stands behind the others -/
def evC (cf mk : CF) : C → Env → R Env (List D × Env)
  | .nil, env => .ok ([], env)
  | .cons (.io i w) as, env => if (getV env i).isSome then (evC cf mk as env).bind fun q => match readIO q.2 i w with
    | some d => .ok (d :: q.1, q.2)
    | none => .stuck
    else .stuck
  | .cons a as, env => (evE cf mk a env).bind fun r => (evC cf mk as r.2).bind fun q => .ok (r.1 :: q.1, q.2)
  | _, _ => .stuck
/-- the items that are walked -/
def evI (cf mk : CF) : C → Env → R Env (List D × Env)
  | .itVal a, env => (evE cf mk a env).bind fun r => match r.1.items? with
    | some ds => .ok (ds, r.2)
    | none => .stuck
  | .itRange1 a, env => (evE cf mk a env).bind fun r => match r.1 with
    | .int n => if decide (-(2 ^ 62) ≤ n) && decide (n < 2 ^ 62) then .ok (rangeD 0 n.toNat, r.2) else .stuck
    | _ => .stuck
  | .itRange2 a b, env => (evE cf mk a env).bind fun r => (evE cf mk b r.2).bind fun q => match r.1, q.1 with
    | .int m, .int n => if decide (-(2 ^ 62) ≤ m) && decide (m < 2 ^ 62) && decide (-(2 ^ 62) ≤ n) && decide (n < 2 ^ 62) then .ok (rangeD m (n - m).toNat, q.2) else .stuck
    | _, _ => .stuck
  | .itEnum a, env => (evE cf mk a env).bind fun r => match r.1.items? with
    | some ds => .ok (enumFrom 0 ds, r.2)
    | none => .stuck
  | .itZip a b, env => (evE cf mk a env).bind fun r => (evE cf mk b r.2).bind fun q => match r.1, q.1 with
    | .lst xs, .lst ys => .ok (zipD xs ys, q.2)
    | .tup xs, .tup ys => .ok (zipD xs ys, q.2)
    | _, _ => .stuck
  | _, _ => .stuck
end
/-! ### what a statement does -/
inductive Out where
  | nx (e : Env) | ret (w : W) (d : D) (e : Env) | brk (e : Env) | cont (e : Env) | exc (x : XD) (e : Env) | stuck
def onR {α : Type} (r : R Env (α × Env)) (f : α → Env → Out) : Out := match r with
  | .ok p => f p.1 p.2
  | .exc x e => .exc x e
  | .stuck => .stuck
@[simp] theorem onR_ok {α : Type} (p : α × Env) (f : α → Env → Out) : onR (.ok p) f = f p.1 p.2 := nr rfl
@[simp] theorem onR_exc {α : Type} (x : XD) (e : Env) (f : α → Env → Out) : onR (α := α) (.exc x e) f = .exc x e := nr rfl
@[simp] theorem onR_stuck {α : Type} (f : α → Env → Out) : onR (α := α) .stuck f = .stuck := nr rfl
def onO {α : Type} (o : Option α) (f : α → Out) : Out := match o with
  | some a => f a
  | none => .stuck
@[simp] theorem onO_some {α : Type} (a : α) (f : α → Out) : onO (some a) f = f a := nr rfl
@[simp] theorem onO_none {α : Type} (f : α → Out) : onO (none : Option α) f = .stuck := nr rfl
def Out.andThen (o : Out) (f : Env → Out) : Out := match o with
  | .nx e => f e
  | o => o
@[simp] theorem andThen_nx (e : Env) (f : Env → Out) : (Out.nx e).andThen f = f e := nr rfl
@[simp] theorem andThen_ret (w : W) (d : D) (e : Env) (f : Env → Out) : (Out.ret w d e).andThen f = .ret w d e := nr rfl
@[simp] theorem andThen_brk (e : Env) (f : Env → Out) : (Out.brk e).andThen f = .brk e := nr rfl
@[simp] theorem andThen_cont (e : Env) (f : Env → Out) : (Out.cont e).andThen f = .cont e := nr rfl
@[simp] theorem andThen_exc (x : XD) (e : Env) (f : Env → Out) : (Out.exc x e).andThen f = .exc x e := nr rfl
@[simp] theorem andThen_stuck (f : Env → Out) : Out.stuck.andThen f = .stuck := nr rfl
/-- a turn of a loop has ended: go on, or leave it -/
def Out.turn (o : Out) (f : Env → Out) : Out := match o with
  | .nx e => f e
  | .cont e => f e
  | .brk e => .nx e
  | o => o
@[simp] theorem turn_nx (e : Env) (f : Env → Out) : (Out.nx e).turn f = f e := nr rfl
@[simp] theorem turn_cont (e : Env) (f : Env → Out) : (Out.cont e).turn f = f e := nr rfl
@[simp] theorem turn_brk (e : Env) (f : Env → Out) : (Out.brk e).turn f = .nx e := nr rfl
@[simp] theorem turn_ret (w : W) (d : D) (e : Env) (f : Env → Out) : (Out.ret w d e).turn f = .ret w d e := nr rfl
@[simp] theorem turn_exc (x : XD) (e : Env) (f : Env → Out) : (Out.exc x e).turn f = .exc x e := nr rfl
@[simp] theorem turn_stuck (f : Env → Out) : Out.stuck.turn f = .stuck := nr rfl
def forL (turn : D → Env → Out) : List D → Env → Out
  | [], env => .nx env
  | d :: ds, env => (turn d env).turn (forL turn ds)
def whileL (t : Env → R Env (D × Env)) (body : Env → Out) : Nat → Env → Out
  | 0, _ => .stuck
  | n + 1, env => onR (t env) fun d e => match d with
    | .bl true => (body e).turn (whileL t body n)
    | .bl false => .nx e
    | _ => .stuck
/-- turns that a while may take -/
def turnsMost : Nat := 4611686018427387904
def evS (cf mk : CF) : S → Env → Out
  | .skip, env => .nx env
  | .seq a b, env => (evS cf mk a env).andThen (evS cf mk b)
  | .asg i e, env => onR (evE cf mk e env) fun d env' => .nx (setV env' i (freshW e d) d)
  | .asgT tg e, env => onR (evE cf mk e env) fun d env' => onO (bindT tg d env') .nx
  | .par i j a b, env => onR (evE cf mk a env) fun x e1 => onR (evE cf mk b e1) fun y e2 => .nx (setV (setV e2 i (freshW a x) x) j (freshW b y) y)
  | .par3 i j k a b c, env => onR (evE cf mk a env) fun x e1 => onR (evE cf mk b e1) fun y e2 => onR (evE cf mk c e2) fun z e3 => .nx (setV (setV (setV e3 i (freshW a x) x) j (freshW b y) y) k (freshW c z) z)
  | .ret e, env => onR (evE cf mk e env) fun d env' => .ret (freshW e d) d env'
  | .retN, env => .ret .frz .non env
  | .ife t a b, env => onR (evE cf mk t env) fun d env' => match d with
    | .bl true => evS cf mk a env'
    | .bl false => evS cf mk b env'
    | _ => .stuck
  | .forIn tg it body, env => onR (evI cf mk it env) fun ds env' => forL (fun d e => onO (bindT tg d e) (evS cf mk body)) ds env'
  | .whil t body, env => whileL (evE cf mk t) (evS cf mk body) turnsMost env
  | .expr e, env => onR (evE cf mk e env) fun _ env' => .nx env'
  | .setIx i fs ix e, env => onR (evE cf mk e env) fun x e1 => if (getV e1 i).isSome then onR (evE cf mk ix e1) fun k e2 => onO (storeIx e2 i fs k x) .nx else .stuck
  | .setFld i fs f e, env => onR (evE cf mk e env) fun x e1 => match wP e1 i fs, readP e1 i fs with
    | some (.obj _ _), some (.ins c xs) => if f < xs.length then onO (putP e1 i fs (.ins c (xs.set f x))) .nx else .stuck
    | _, _ => .stuck
  | .setIxT i ix j e, env => onR (evE cf mk e env) fun p e1 => match p with
    | .tup [x, y] => if (getV e1 i).isSome then onR (evE cf mk ix e1) fun k e2 => onO (storeIx e2 i [] k x) fun e3 => .nx (setV e3 j .frz y) else .stuck
    | _ => .stuck
  | .append i fs e, env => match wP env i fs, readP env i fs with
    | some (.own .frz), some (.lst _) => onR (evE cf mk e env) fun x e1 => match wP e1 i fs, readP e1 i fs with
      | some (.own .frz), some (.lst ds) => if ds.length < lim then onO (putP e1 i fs (.lst (ds ++ [x]))) .nx else .stuck
      | _, _ => .stuck
    | _, _ => .stuck
  | .extend i fs e, env => match wP env i fs, readP env i fs with
    | some (.own .frz), some (.lst _) => onR (evE cf mk e env) fun x e1 => match wP e1 i fs, readP e1 i fs, x, freshW e x with
      | some (.own .frz), some (.lst ds), .lst ys, .own .frz => if ds.length + ys.length ≤ lim then onO (putP e1 i fs (.lst (ds ++ ys))) .nx else .stuck
      | _, _, _, _ => .stuck
    | _, _ => .stuck
  | .brk, env => .brk env
  | .cont, env => .cont env
  | .raise c as, env => onR (evV cf mk as env) fun ds env' => .exc ⟨c, ds⟩ env'
  | .stuck, _ => .stuck

/-- a def: its parameters' holding (what it may change is its own), how many slots, its body -/
structure FnC where
  ws : List W
  rw : W
  ns : Nat
  body : S
/-- a def's arguments as it leaves them; none where it kept one of its own for good -/
def outsOf : List W → List D → Env → Option (List D)
  | [], [], _ => some []
  | .frz :: ws, a :: as, env => (outsOf ws as env.tail).map (a :: ·)
  | w :: ws, _ :: as, some (w', d) :: env => if W.same w w' then (outsOf ws as env).map (d :: ·) else none
  | _, _, _ => none
def runF (cf mk : CF) (fc : FnC) (args : List D) : R (List D) (D × List D) :=
  if args.length = fc.ws.length then
    match evS cf mk fc.body ((fc.ws.zip args).map some ++ List.replicate (fc.ns - fc.ws.length) none) with
    | .nx e => if fc.rw.isFrz then (R.of (outsOf fc.ws args e)).bind fun o => .ok (.non, o) else .stuck
    | .ret w d e => if fc.rw.isFrz || W.same w fc.rw then (R.of (outsOf fc.ws args e)).bind fun o => .ok (d, o) else .stuck
    | .exc x e => (R.of (outsOf fc.ws args e)).bind fun o => .exc x o
    | _ => .stuck
  else .stuck
structure Tb where
  fns : List FnC
  cls : List (Nat × Nat)
def mkOf (tb : Tb) (cf : CF) : CF := fun c args => match tb.cls[c]? with
  | some (f, n) => match cf f (.ins c (List.replicate n .unset) :: args) with
    | .ok (.non, o :: outs) => .ok (o, outs)
    | .exc x (_ :: outs) => .exc x outs
    | _ => .stuck
  | none => .stuck
def noCF : CF := fun _ _ => .stuck
/-- calls to a depth -/
def cf (tb : Tb) : Nat → CF
  | 0 => noCF
  | 1 => fun f args => match tb.fns[f]? with
    | some fc => runF noCF noCF fc args
    | none => .stuck
  | n + 2 => fun f args => match tb.fns[f]? with
    | some fc => runF (cf tb (n + 1)) (mkOf tb (cf tb n)) fc args
    | none => .stuck
end PV
end

section
set_option Elab.async false
set_option linter.all false
set_option maxRecDepth 100000
/-! PV2: what data stand for in the abstract heap; states; how readings follow from answers. -/
namespace PV
open PySem L2

structure Gx where
  K : PySem.W.Frag
  fa : Nat → Addr
  /-- an exception of class c: its class value -/
  xc : Nat → Value
  /-- names of its fields -/
  xf : Nat → List Str

def kD : Key → D
  | .inl i => .int i
  | .inr s => .str s
def Sub (P P' : Hp) : Prop := ∀ a o, P a = some o → P' a = some o
theorem Sub.refl (P : Hp) : Sub P P := fun _ _ h => h
theorem Sub.trans {P Q R : Hp} (a : Sub P Q) (b : Sub Q R) : Sub P R := fun x o h => b x o (a x o h)

mutual
/-- v tells d, by objects of P, for good -/
inductive Dn (g : Gx) (P : Hp) : V → D → Prop
  | non : Dn g P .non .non
  | bl (b : Bool) : Dn g P (.bl b) (.bl b)
  | int (i : Int) : Dn g P (.int i) (.int i)
  | str (x : Str) : Dn g P (.str x) (.str x)
  | lst {a : Addr} {xs : List V} {ds : List D} : SqL g.K P a xs → Dns g P xs ds → Dn g P (.ref a) (.lst ds)
  | tup {a : Addr} {xs : List V} {ds : List D} : SqT g.K P a xs → Dns g P xs ds → Dn g P (.ref a) (.tup ds)
  | dct {a : Addr} {kvs : List (Key × V)} {ks vs : List D} : P a = some (.dK kvs) → ks = kvs.map (fun p => kD p.1) → (kvs.map (·.1)).Nodup → Dns g P (kvs.map (·.2)) vs → Dn g P (.ref a) (.dct ks vs)
  | fn {a : Addr} {k : Nat} : a = g.fa k → Dn g P (.ref a) (.fn k)
inductive Dns (g : Gx) (P : Hp) : List V → List D → Prop
  | nil : Dns g P [] []
  | cons {v : V} {vs : List V} {d : D} {ds : List D} : Dn g P v d → Dns g P vs ds → Dns g P (v :: vs) (d :: ds)
end
mutual
/-- v tells d; who holds it may change the objects fp -/
inductive On (g : Gx) (P H : Hp) : V → W → D → List Addr → Prop
  | frz {v : V} {d : D} : Dn g P v d → On g P H v .frz d []
  | lst {a : Addr} {w : W} {xs : List V} {ds : List D} {fp : List Addr} : H a = some (.lst xs) → Ons g P H xs w ds fp → On g P H (.ref a) (.own w) (.lst ds) (a :: fp)
  | dct {a : Addr} {w : W} {kvs : List (Key × V)} {ks vs : List D} {fp : List Addr} : H a = some (.dK kvs) → ks = kvs.map (fun p => kD p.1) → (kvs.map (·.1)).Nodup → Ons g P H (kvs.map (·.2)) w vs fp → On g P H (.ref a) (.own w) (.dct ks vs) (a :: fp)
inductive Ons (g : Gx) (P H : Hp) : List V → W → List D → List Addr → Prop
  | nil {w : W} : Ons g P H [] w [] []
  | cons {v : V} {vs : List V} {w : W} {d : D} {ds : List D} {f1 f2 : List Addr} : On g P H v w d f1 → Ons g P H vs w ds f2 → Ons g P H (v :: vs) w (d :: ds) (f1 ++ f2)
end

section
variable {g : Gx} {P P' H H' : Hp}
theorem rd_mono {a : Addr} {u : HO} (e : Sub P P') (h : Rd P a u) : Rd P' a u := by
  rcases h with h | ⟨o, h⟩
  · exact .inl (e a _ h)
  · exact .inr ⟨o, e a _ h⟩
theorem sqL_mono {K : PySem.W.Frag} {a : Addr} {xs : List V} (e : Sub P P') (h : SqL K P a xs) : SqL K P' a xs := by
  rcases h with h | h
  · exact .inl (rd_mono e h)
  · exact .inr h
theorem sqT_mono {K : PySem.W.Frag} {a : Addr} {xs : List V} (e : Sub P P') (h : SqT K P a xs) : SqT K P' a xs := by
  rcases h with h | h
  · exact .inl (rd_mono e h)
  · exact .inr h
mutual
theorem Dn.mono (e : Sub P P') : ∀ {v : V} {d : D}, Dn g P v d → Dn g P' v d
  | _, _, .non => .non
  | _, _, .bl b => .bl b
  | _, _, .int i => .int i
  | _, _, .str x => .str x
  | _, _, .lst h r => .lst (sqL_mono e h) (Dns.mono e r)
  | _, _, .tup h r => .tup (sqT_mono e h) (Dns.mono e r)
  | _, _, .dct h k n r => .dct (e _ _ h) k n (Dns.mono e r)
  | _, _, .fn h => .fn h
theorem Dns.mono (e : Sub P P') : ∀ {vs : List V} {ds : List D}, Dns g P vs ds → Dns g P' vs ds
  | _, _, .nil => .nil
  | _, _, .cons h r => .cons (Dn.mono e h) (Dns.mono e r)
end
theorem Dns.length : ∀ {vs : List V} {ds : List D}, Dns g P vs ds → vs.length = ds.length
  | _, _, .nil => rfl
  | _, _, .cons _ r => by rw [List.length_cons, List.length_cons, Dns.length r]
theorem Dns.get : ∀ {vs : List V} {ds : List D} {i : Nat} {d : D}, Dns g P vs ds → ds[i]? = some d → ∃ v, vs[i]? = some v ∧ Dn g P v d
  | _, _, _, _, .nil, e => by simp at e
  | _, _, 0, d, .cons h _, e => by simp at e; subst e; exact ⟨_, rfl, h⟩
  | _, _, i + 1, d, .cons _ r, e => by
    obtain ⟨v, h1, h2⟩ := Dns.get (i := i) (d := d) r (by simpa using e)
    exact ⟨v, by simpa using h1, h2⟩
theorem Dns.get' : ∀ {vs : List V} {ds : List D} {i : Nat} {v : V}, Dns g P vs ds → vs[i]? = some v → ∃ d, ds[i]? = some d ∧ Dn g P v d
  | _, _, _, _, .nil, e => by simp at e
  | _, _, 0, v, .cons h _, e => by simp at e; subst e; exact ⟨_, rfl, h⟩
  | _, _, i + 1, v, .cons _ r, e => by
    obtain ⟨d, h1, h2⟩ := Dns.get' (i := i) (v := v) r (by simpa using e)
    exact ⟨d, by simpa using h1, h2⟩
theorem Dns.append : ∀ {xs ys : List V} {ds es : List D}, Dns g P xs ds → Dns g P ys es → Dns g P (xs ++ ys) (ds ++ es)
  | _, _, _, _, .nil, s => s
  | _, _, _, _, .cons h r, s => .cons h (Dns.append r s)
theorem Dns.take : ∀ {xs : List V} {ds : List D} (n : Nat), Dns g P xs ds → Dns g P (xs.take n) (ds.take n)
  | _, _, 0, _ => by simp; exact .nil
  | _, _, _ + 1, .nil => by simp; exact .nil
  | _, _, n + 1, .cons h r => by simp only [List.take_succ_cons]; exact .cons h (Dns.take n r)
theorem Dns.drop : ∀ {xs : List V} {ds : List D} (n : Nat), Dns g P xs ds → Dns g P (xs.drop n) (ds.drop n)
  | _, _, 0, r => by simpa using r
  | _, _, _ + 1, .nil => by simp; exact .nil
  | _, _, n + 1, .cons _ r => by simp only [List.drop_succ_cons]; exact Dns.drop n r
theorem Dns.set {v : V} {d : D} (h : Dn g P v d) : ∀ {xs : List V} {ds : List D} (n : Nat), Dns g P xs ds → Dns g P (xs.set n v) (ds.set n d)
  | _, _, _, .nil => by simp; exact .nil
  | _, _, 0, .cons _ r => by simp only [List.set_cons_zero]; exact .cons h r
  | _, _, n + 1, .cons k r => by simp only [List.set_cons_succ]; exact .cons k (Dns.set h n r)
theorem Dns.eraseIdx : ∀ {xs : List V} {ds : List D} (n : Nat), Dns g P xs ds → Dns g P (xs.eraseIdx n) (ds.eraseIdx n)
  | _, _, _, .nil => by simp; exact .nil
  | _, _, 0, .cons _ r => by simpa using r
  | _, _, n + 1, .cons k r => by simp only [List.eraseIdx_cons_succ]; exact .cons k (Dns.eraseIdx n r)
theorem Dns.dropLast : ∀ {xs : List V} {ds : List D}, Dns g P xs ds → Dns g P xs.dropLast ds.dropLast := fun {xs ds} r => by
  rw [List.dropLast_eq_take, List.dropLast_eq_take, r.length]
  exact r.take _
theorem Ons.frz : ∀ {vs : List V} {ds : List D} {fp : List Addr}, Ons g P H vs .frz ds fp → Dns g P vs ds ∧ fp = []
  | _, _, _, .nil => ⟨.nil, rfl⟩
  | _, _, _, .cons (.frz h) r => ⟨.cons h (Ons.frz r).1, by rw [(Ons.frz r).2]; rfl⟩
theorem Ons.of_frz : ∀ {vs : List V} {ds : List D}, Dns g P vs ds → Ons g P H vs .frz ds []
  | _, _, .nil => .nil
  | _, _, .cons h r => Ons.cons (f1 := []) (f2 := []) (.frz h) (Ons.of_frz r)
theorem On.frz' {v : V} {d : D} {fp : List Addr} (h : On g P H v .frz d fp) : Dn g P v d ∧ fp = [] := by
  cases h with
  | frz h => exact ⟨h, rfl⟩
mutual
/-- its own objects stand as they stood -/
theorem On.frame (e : Sub P P') : ∀ {v : V} {w : W} {d : D} {fp : List Addr}, On g P H v w d fp → (∀ a ∈ fp, ∀ o, H a = some o → H' a = some o) → On g P' H' v w d fp
  | _, _, _, _, .frz h, _ => .frz (h.mono e)
  | _, _, _, _, .lst h r, k => .lst (k _ List.mem_cons_self _ h) (Ons.frame e r fun a ha => k a (List.mem_cons_of_mem _ ha))
  | _, _, _, _, .dct h q n r, k => .dct (k _ List.mem_cons_self _ h) q n (Ons.frame e r fun a ha => k a (List.mem_cons_of_mem _ ha))
theorem Ons.frame (e : Sub P P') : ∀ {vs : List V} {w : W} {ds : List D} {fp : List Addr}, Ons g P H vs w ds fp → (∀ a ∈ fp, ∀ o, H a = some o → H' a = some o) → Ons g P' H' vs w ds fp
  | _, _, _, _, .nil, _ => .nil
  | _, _, _, _, .cons h r, k => .cons (On.frame e h fun a ha => k a (List.mem_append_left _ ha)) (Ons.frame e r fun a ha => k a (List.mem_append_right _ ha))
end
mutual
/-- it is told for good, where its objects are told for good -/
theorem On.cool (e : Sub P P') : ∀ {v : V} {w : W} {d : D} {fp : List Addr}, On g P H v w d fp → (∀ a ∈ fp, ∀ o, H a = some o → P' a = some o) → Dn g P' v d
  | _, _, _, _, .frz h, _ => h.mono e
  | _, _, _, _, .lst h r, k => .lst (.inl (.inl (k _ List.mem_cons_self _ h))) (Ons.cool e r fun a ha => k a (List.mem_cons_of_mem _ ha))
  | _, _, _, _, .dct h q n r, k => .dct (k _ List.mem_cons_self _ h) q n (Ons.cool e r fun a ha => k a (List.mem_cons_of_mem _ ha))
theorem Ons.cool (e : Sub P P') : ∀ {vs : List V} {w : W} {ds : List D} {fp : List Addr}, Ons g P H vs w ds fp → (∀ a ∈ fp, ∀ o, H a = some o → P' a = some o) → Dns g P' vs ds
  | _, _, _, _, .nil, _ => .nil
  | _, _, _, _, .cons h r, k => .cons (On.cool e h fun a ha => k a (List.mem_append_left _ ha)) (Ons.cool e r fun a ha => k a (List.mem_append_right _ ha))
end
mutual
theorem On.there : ∀ {v : V} {w : W} {d : D} {fp : List Addr}, On g P H v w d fp → ∀ a ∈ fp, H a ≠ none
  | _, _, _, _, .frz _, a, ha => by simp at ha
  | _, _, _, _, .lst h r, a, ha => by
    rcases List.mem_cons.mp ha with rfl | ha
    · rw [h]; simp
    · exact Ons.there r a ha
  | _, _, _, _, .dct h _ _ r, a, ha => by
    rcases List.mem_cons.mp ha with rfl | ha
    · rw [h]; simp
    · exact Ons.there r a ha
theorem Ons.there : ∀ {vs : List V} {w : W} {ds : List D} {fp : List Addr}, Ons g P H vs w ds fp → ∀ a ∈ fp, H a ≠ none
  | _, _, _, _, .nil, a, ha => by simp at ha
  | _, _, _, _, .cons h r, a, ha => by
    rcases List.mem_append.mp ha with ha | ha
    · exact On.there h a ha
    · exact Ons.there r a ha
end
end

/-! ### states -/
structure Rel (g : Gx) (env : Env) (σ : L2.St) (H P : Hp) (φ : Nat → List Addr) : Prop where
  len : σ.length = env.length
  on : ∀ (i : Nat) (w : W) (d : D), env[i]? = some (some (w, d)) → ∃ v, σ[i]? = some (some v) ∧ On g P H v w d (φ i)
  nd : ∀ i, (φ i).Nodup
  dj : ∀ i j a, a ∈ φ i → a ∈ φ j → i = j
  ap : ∀ i a, a ∈ φ i → P a = none
  tr : ∀ i a, a ∈ φ i → H a ≠ none
  sub : Sub P H
structure Step (H P : Hp) (φ : Nat → List Addr) (H' P' : Hp) (φ' : Nat → List Addr) : Prop where
  keep : ∀ a o, H a = some o → (∀ i, a ∉ φ i) → H' a = some o
  there : ∀ a, H a ≠ none → H' a ≠ none
  pm : Sub P P'
  fr : ∀ i a, a ∈ φ' i → (∃ j, a ∈ φ j) ∨ H a = none
  pn : ∀ a, P' a ≠ none → P a ≠ none ∨ (∃ j, a ∈ φ j) ∨ H a = none
theorem Step.refl {H P : Hp} {φ : Nat → List Addr} : Step H P φ H P φ := ⟨fun _ _ h _ => h, fun _ h => h, Sub.refl P, fun i _ h => .inl ⟨i, h⟩, fun _ h => .inl h⟩
theorem Step.trans {H P H1 P1 H2 P2 : Hp} {φ φ1 φ2 : Nat → List Addr} (a : Step H P φ H1 P1 φ1) (b : Step H1 P1 φ1 H2 P2 φ2) : Step H P φ H2 P2 φ2 where
  keep := fun x o h n => b.keep x o (a.keep x o h n) fun i hi => by
    rcases a.fr i x hi with ⟨j, hj⟩ | z
    · exact n j hj
    · rw [h] at z; cases z
  there := fun x h => b.there x (a.there x h)
  pm := a.pm.trans b.pm
  fr := fun i x h => by
    rcases b.fr i x h with ⟨j, hj⟩ | z
    · exact a.fr j x hj
    · by_cases q : H x = none
      · exact .inr q
      · exact absurd z (a.there x q)
  pn := fun x h => by
    rcases b.pn x h with z | ⟨j, hj⟩ | z
    · exact a.pn x z
    · rcases a.fr j x hj with y | y
      · exact .inr (.inl y)
      · exact .inr (.inr y)
    · by_cases q : H x = none
      · exact .inr (.inr q)
      · exact absurd z (a.there x q)
theorem Step.back {H P H1 P1 : Hp} {φ φ1 : Nat → List Addr} (a : Step H P φ H1 P1 φ1) {x : Addr} (h : H1 x = none) : H x = none := by
  by_cases q : H x = none
  · exact q
  · exact absurd h (a.there x q)
/-- exactly the old things, new ones beside -/
structure Grow (H P H' P' : Hp) : Prop where
  ex : Sub H H'
  pm : Sub P P'
  pn : ∀ a, P' a ≠ none → P a ≠ none ∨ H a = none
  sub : Sub P' H'
theorem Grow.refl {H P : Hp} (s : Sub P H) : Grow H P H P := ⟨Sub.refl H, Sub.refl P, fun _ h => .inl h, s⟩
theorem Grow.step {H P H' P' : Hp} {φ : Nat → List Addr} (k : Grow H P H' P') : Step H P φ H' P' φ :=
  ⟨fun a o h _ => k.ex a o h, fun a h => by
    cases q : H a with
    | none => exact absurd q h
    | some o => rw [k.ex a o q]; simp, k.pm, fun i a h => .inl ⟨i, h⟩, fun a h => (k.pn a h).imp id .inr⟩
theorem Rel.grow {g : Gx} {env : Env} {σ : L2.St} {H P H' P' : Hp} {φ : Nat → List Addr} (r : Rel g env σ H P φ) (k : Grow H P H' P') : Rel g env σ H' P' φ where
  len := r.len
  on := fun i w d h => by
    obtain ⟨v, e, o⟩ := r.on i w d h
    exact ⟨v, e, o.frame k.pm fun a _ o h => k.ex a o h⟩
  nd := r.nd
  dj := r.dj
  ap := fun i a h => by
    by_cases q : P' a = none
    · exact q
    · rcases k.pn a q with z | z
      · exact absurd (r.ap i a h) z
      · exact absurd z (r.tr i a h)
  tr := fun i a h => (k.step (φ := φ)).there a (r.tr i a h)
  sub := k.sub
/-- a new object that nobody holds yet, told for good -/
theorem Grow.new {H P : Hp} (s : Sub P H) {p : Addr} (hp : H p = none) (o : HO) : Grow H P (upd H p o) (upd P p o) where
  ex := fun a u h => by rw [upd_ne (ne_of_none h hp)]; exact h
  pm := fun a u h => by rw [upd_ne (ne_of_none (s a u h) hp)]; exact h
  pn := fun a h => by
    by_cases e : a = p
    · subst e; exact .inr hp
    · rw [upd_ne e] at h; exact .inl h
  sub := fun a u h => by
    by_cases e : a = p
    · subst e; rw [upd_same] at h ⊢; exact h
    · rw [upd_ne e] at h ⊢; exact s a u h
/-- .. that is held by its maker -/
theorem Grow.own {H P : Hp} (s : Sub P H) {p : Addr} (hp : H p = none) (o : HO) : Grow H P (upd H p o) P where
  ex := fun a u h => by rw [upd_ne (ne_of_none h hp)]; exact h
  pm := Sub.refl P
  pn := fun a h => .inl h
  sub := fun a u h => by rw [upd_ne (ne_of_none (s a u h) hp)]; exact s a u h
theorem Grow.trans {H P H1 P1 H2 P2 : Hp} (a : Grow H P H1 P1) (b : Grow H1 P1 H2 P2) : Grow H P H2 P2 where
  ex := a.ex.trans b.ex
  pm := a.pm.trans b.pm
  pn := fun x h => by
    rcases b.pn x h with z | z
    · exact a.pn x z
    · cases e : H x with
      | none => exact .inr rfl
      | some o => rw [a.ex x o e] at z; cases z
  sub := b.sub

/-! ### what is wanted of an answer -/
def XOk (g : Gx) (x : XD) (cls : Value) (dx : Option Addr) (P H : Hp) : Prop :=
  cls = g.xc x.c ∧ ((x.fs = [] ∧ g.xf x.c = []) ∨ ∃ a vs, dx = some a ∧ H a = some (.xd ((g.xf x.c).zip vs)) ∧ Dns g P vs x.fs ∧ (g.xf x.c).length = vs.length)
def Post {α β : Type} (g : Gx) (W : WX) (σ : L2.St) (H P : Hp) (φ : Nat → List Addr) (ρ : α → β → Hp → Hp → Hp → (Nat → List Addr) → Prop) (r : R Env (α × Env)) (Q : β → Hp → Prop) : Prop :=
  match r with
  | .ok p => ∀ b H' P' φ', Rel g p.2 σ H' P' φ' → Step H P φ H' P' φ' → ρ p.1 b H P' H' φ' → Q b H'
  | .exc x e => ∀ cls dx H' P' φ', Rel g e σ H' P' φ' → Step H P φ H' P' φ' → XOk g x cls dx P' H' → W cls dx σ H'
  | .stuck => False
/-- a value held as w: what it holds is new, and apart -/
def ρW (g : Gx) (w : D → W) : D → V → Hp → Hp → Hp → (Nat → List Addr) → Prop := fun d v H0 P H φ =>
  ∃ fp, On g P H v (w d) d fp ∧ fp.Nodup ∧ ∀ a ∈ fp, H0 a = none ∧ P a = none ∧ ∀ i, a ∉ φ i
/-- a value told for good -/
def ρD (g : Gx) : D → V → Hp → Hp → Hp → (Nat → List Addr) → Prop := fun d v _ P _ _ => Dn g P v d
def ρL (g : Gx) : List D → List V → Hp → Hp → Hp → (Nat → List Addr) → Prop := fun ds vs _ P _ _ => Dns g P vs ds

section
variable {g : Gx} {W : WX} {σ : L2.St} {H P : Hp} {φ : Nat → List Addr} {α β γ δ : Type}
/-- monotone in the heap ahead -/
def Back (ρ : α → β → Hp → Hp → Hp → (Nat → List Addr) → Prop) : Prop := ∀ a b H0 H1 P H φ, (∀ x, H1 x = none → H0 x = none) → ρ a b H1 P H φ → ρ a b H0 P H φ
theorem back_W {w : D → PV.W} : Back (ρW g w) := fun a b H0 H1 P H φ h ⟨fp, o, n, k⟩ => ⟨fp, o, n, fun x hx => ⟨h x (k x hx).1, (k x hx).2⟩⟩
theorem back_D : Back (ρD g) := fun _ _ _ _ _ _ _ _ h => h
theorem back_L : Back (ρL g) := fun _ _ _ _ _ _ _ _ h => h
theorem Post.rebase {ρ : α → β → Hp → Hp → Hp → (Nat → List Addr) → Prop} {r : R Env (α × Env)} {Q : β → Hp → Prop} {H1 P1 : Hp} {φ1 : Nat → List Addr} (hb : Back ρ) (h : Post g W σ H P φ ρ r Q) (s : Step H P φ H1 P1 φ1) : Post g W σ H1 P1 φ1 ρ r Q := by
  cases r with
  | ok p => exact fun b H' P' φ' rel st q => h b H' P' φ' rel (s.trans st) (hb _ _ _ _ _ _ _ (fun x z => s.back z) q)
  | exc x e => exact fun cls dx H' P' φ' rel st q => h cls dx H' P' φ' rel (s.trans st) q
  | stuck => exact h
/-- first one answer, then what hangs on it -/
theorem Post.bind {ρ1 : α → β → Hp → Hp → Hp → (Nat → List Addr) → Prop} {ρ2 : γ → δ → Hp → Hp → Hp → (Nat → List Addr) → Prop} {r : R Env (α × Env)} {f : α × Env → R Env (γ × Env)} {Q : δ → Hp → Prop} {Q1 : β → Hp → Prop} (hb : Back ρ2)
    (h : Post g W σ H P φ ρ2 (r.bind f) Q)
    (k : ∀ a env' b H' P' φ', r = .ok (a, env') → Rel g env' σ H' P' φ' → Step H P φ H' P' φ' → ρ1 a b H P' H' φ' → Post g W σ H' P' φ' ρ2 (f (a, env')) Q → Q1 b H') : Post g W σ H P φ ρ1 r Q1 := by
  cases r with
  | ok p => exact fun b H' P' φ' rel st q => k p.1 p.2 b H' P' φ' rfl rel st q (Post.rebase hb h st)
  | exc x e => exact h
  | stuck => exact h
end
end PV
end

section
set_option Elab.async false
set_option linter.all false
set_option maxRecDepth 100000
/-! PV3: the readings of codes; names, constants, operations' arguments. -/
namespace PV
open PySem L2

/-- read for an operation: told for good, or one's own list or dict of such -/
def Db (g : Gx) (P H : Hp) (v : V) (d : D) : Prop := Dn g P v d ∨ ∃ fp, On g P H v (.own .frz) d fp
inductive Dbs (g : Gx) (P H : Hp) : List V → List D → Prop
  | nil : Dbs g P H [] []
  | cons {v : V} {vs : List V} {d : D} {ds : List D} : Db g P H v d → Dbs g P H vs ds → Dbs g P H (v :: vs) (d :: ds)
def ρB (g : Gx) : List D → List V → Hp → Hp → Hp → (Nat → List Addr) → Prop := fun ds vs _ P H _ => Dbs g P H vs ds

section
variable (g : Gx) (W : WX) (cf mk : CF)
def tE (c : C) : TE := fun σ H Q => ∃ env P φ, Rel g env σ H P φ ∧ Post g W σ H P φ (ρW g (freshW c)) (evE cf mk c env) Q
def tD (c : C) : TE := fun σ H Q => ∃ env P φ, Rel g env σ H P φ ∧ Post g W σ H P φ (ρD g) (evE cf mk c env) Q
def tA (c : C) : TA := fun σ H Q => ∃ env P φ, Rel g env σ H P φ ∧ Post g W σ H P φ (ρB g) (evA cf mk c env) Q
def tV (c : C) : TA := fun σ H Q => ∃ env P φ, Rel g env σ H P φ ∧ Post g W σ H P φ (ρL g) (evV cf mk c env) Q
def tT (c : C) : TT := fun σ H Q => tE g W cf mk c σ H fun v H' => ∃ k, v = .bl k ∧ Q k H'
def tArg : C → TE
  | .brw i [] => tVar i
  | c => tE g W cf mk c
def tArgs : C → TA
  | .cons a as => tCons (tArg g W cf mk a) (tArgs as)
  | _ => tNil
end

section
variable {g : Gx} {W : WX} {cf mk : CF} {σ : L2.St} {H P : Hp} {φ : Nat → List Addr} {env : Env}
theorem _root_.L2.PE.imp {X : Cx} {e : Expr} {t t' : TE} (h : PE X e t') (k : ∀ σ H Q, t σ H Q → t' σ H Q) : PE X e t := ⟨fun pins s σ H Q I q => h.run pins s σ H Q I (k σ H Q q)⟩
theorem _root_.L2.PT.imp {X : Cx} {e : Expr} {t t' : TT} (h : PT X e t') (k : ∀ σ H Q, t σ H Q → t' σ H Q) : PT X e t := ⟨fun pins s σ H Q I q => h.run pins s σ H Q I (k σ H Q q)⟩
theorem _root_.L2.PA.imp {X : Cx} {es : List Expr} {t t' : TA} (h : PA X es t') (k : ∀ σ H Q, t σ H Q → t' σ H Q) : PA X es t := ⟨fun pos pins s σ H Q I q => h.run pos pins s σ H Q I (k σ H Q q)⟩
theorem _root_.L2.PS.imp {X : Cx} {st : Stmt} {t t' : TS} (h : PS X st t') (k : ∀ D σ H, t D σ H → t' D σ H) : PS X st t := ⟨fun pins s σ H D I q => h.run pins s σ H D I (k D σ H q)⟩
theorem _root_.L2.PSs.imp {X : Cx} {st : List Stmt} {t t' : TS} (h : PSs X st t') (k : ∀ D σ H, t D σ H → t' D σ H) : PSs X st t := ⟨fun pins s σ H D I q => h.run pins s σ H D I (k D σ H q)⟩

/-- P and, for good, the objects fp of H -/
def coolP (P H : Hp) (fp : List Addr) : Hp := fun a => if a ∈ fp then H a else P a
theorem coolP_in {a : Addr} {fp : List Addr} (h : a ∈ fp) : coolP P H fp a = H a := by unfold coolP; rw [if_pos h]
theorem coolP_out {a : Addr} {fp : List Addr} (h : a ∉ fp) : coolP P H fp a = P a := by unfold coolP; rw [if_neg h]
theorem cool_sub {fp : List Addr} (s : Sub P H) : Sub P (coolP P H fp) := fun a o h => by
  by_cases e : a ∈ fp
  · rw [coolP_in e]; exact s a o h
  · rw [coolP_out e]; exact h
theorem cool_le {fp : List Addr} (s : Sub P H) : Sub (coolP P H fp) H := fun a o h => by
  by_cases e : a ∈ fp
  · rw [coolP_in e] at h; exact h
  · rw [coolP_out e] at h; exact s a o h
theorem Rel.cool (r : Rel g env σ H P φ) {fp : List Addr} (n : ∀ a ∈ fp, ∀ i, a ∉ φ i) : Rel g env σ H (coolP P H fp) φ where
  len := r.len
  on := fun i w d h => by
    obtain ⟨v, e, o⟩ := r.on i w d h
    exact ⟨v, e, o.frame (cool_sub r.sub) fun _ _ _ h => h⟩
  nd := r.nd
  dj := r.dj
  ap := fun i a h => by rw [coolP_out fun z => n a z i h]; exact r.ap i a h
  tr := r.tr
  sub := cool_le r.sub
theorem Step.cool {H0 P0 : Hp} {φ0 : Nat → List Addr} {fp : List Addr} (s : Step H0 P0 φ0 H P φ) (sub : Sub P H) (n : ∀ a ∈ fp, (∃ i, a ∈ φ0 i) ∨ H0 a = none) : Step H0 P0 φ0 H (coolP P H fp) φ where
  keep := s.keep
  there := s.there
  pm := s.pm.trans (cool_sub sub)
  fr := s.fr
  pn := fun a h => by
    by_cases e : a ∈ fp
    · exact .inr (n a e)
    · rw [coolP_out e] at h; exact s.pn a h
theorem ρW_cool {w : D → PV.W} {d : D} {v : V} {H0 : Hp} (rel : Rel g env σ H P φ) (h : ρW g w d v H0 P H φ) {P0 : Hp} {φ0 : Nat → List Addr} (st : Step H0 P0 φ0 H P φ) :
    ∃ P', Rel g env σ H P' φ ∧ Step H0 P0 φ0 H P' φ ∧ Sub P P' ∧ Dn g P' v d := by
  obtain ⟨fp, o, n, k⟩ := h
  refine ⟨coolP P H fp, rel.cool fun a ha => (k a ha).2.2, st.cool rel.sub fun a ha => .inr (k a ha).1, cool_sub rel.sub, o.cool (cool_sub rel.sub) fun a ha u hu => ?_⟩
  rw [coolP_in ha]; exact hu
theorem Post.cool {w : D → PV.W} {r : R Env (D × Env)} {Q : VK} (h : Post g W σ H P φ (ρD g) r Q) : Post g W σ H P φ (ρW g w) r Q := by
  cases r with
  | ok p =>
    intro b H' P' φ' rel st q
    obtain ⟨P2, rel2, st2, _, dn⟩ := ρW_cool rel q st
    exact h b H' P2 φ' rel2 st2 dn
  | exc x e => exact h
  | stuck => exact h
theorem tE_of_tD {c : C} {Q : VK} (h : tD g W cf mk c σ H Q) : tE g W cf mk c σ H Q := let ⟨env, P, φ, rel, p⟩ := h; ⟨env, P, φ, rel, p.cool⟩
/-- a value told for good is one that may be held -/
theorem ρW_of_dn {w : D → PV.W} {d : D} {v : V} {H0 : Hp} (h : Dn g P v d) (e : w d = .frz) : ρW g w d v H0 P H φ := ⟨[], by rw [e]; exact .frz h, List.nodup_nil, fun a ha => by simp at ha⟩
theorem Post.ok {α β : Type} {ρ : α → β → Hp → Hp → Hp → (Nat → List Addr) → Prop} {a : α} {b : β} {Q : β → Hp → Prop} (h : Post g W σ H P φ ρ (.ok (a, env)) Q) (rel : Rel g env σ H P φ) (hr : ρ a b H P H φ) : Q b H := h b H P φ rel Step.refl hr

/-! ### lists of arguments -/
theorem tArgs_of (as : C) : ∀ {σ : L2.St} {H : Hp} {Q : List V → Hp → Prop}, tA g W cf mk as σ H Q → tArgs g W cf mk as σ H Q := by
  induction as with
  | nil =>
    rintro σ H Q ⟨env, P, φ, rel, p⟩
    exact p [] H P φ rel Step.refl .nil
  | cons a as _ ih =>
    rintro σ H Q ⟨env, P, φ, rel, p⟩
    by_cases hb : ∃ i, a = .brw i []
    · obtain ⟨i, rfl⟩ := hb
      show tVar i σ H fun x H1 => tArgs g W cf mk as σ H1 fun xs H2 => Q (x :: xs) H2
      simp only [evA] at p
      by_cases hs : (getV env i).isSome = true
      · rw [if_pos hs] at p
        unfold getV at hs
        split at hs
        · rename_i w d e
          obtain ⟨v, ev, _⟩ := rel.on i w d e
          refine ⟨v, ev, ih ⟨env, P, φ, rel, Post.bind (ρ1 := ρB g) (fun _ _ _ _ _ _ _ _ h => h) p ?_⟩⟩
          intro ds env' vs H' P' φ' _ rel' st hds k
          simp only at k
          unfold readB at k
          split at k
          · rename_i d' hd
            split at hd
            · rename_i w2 d2 e2
              obtain ⟨v2, ev2, o2⟩ := rel'.on i w2 d2 e2
              rw [ev] at ev2
              cases ev2
              simp only [PV.W.at, D.at] at hd
              refine k.ok (b := v :: vs) rel' ?_
              refine .cons ?_ hds
              split at hd
              · rename_i fl
                cases hd
                cases w2 with
                | frz => exact .inl o2.frz'.1
                | own w => cases w with
                  | frz => exact .inr ⟨_, o2⟩
                  | _ => exact absurd fl (by simp [PV.W.flat])
                | obj => exact absurd fl (by simp [PV.W.flat])
              · cases hd
            · cases hd
          · exact k.elim
        · simp at hs
      · rw [if_neg hs] at p
        exact p.elim
    · have ea : tArg g W cf mk a = tE g W cf mk a := by
        unfold tArg
        split
        · exact absurd ⟨_, rfl⟩ hb
        · rfl
      show tArg g W cf mk a σ H fun x H1 => tArgs g W cf mk as σ H1 fun xs H2 => Q (x :: xs) H2
      rw [ea]
      have ev : evA cf mk (.cons a as) env = (evE cf mk a env).bind fun r => (evA cf mk as r.2).bind fun q => .ok (r.1 :: q.1, q.2) := by
        cases a with
        | brw i fs => cases fs with
          | nil => exact absurd ⟨i, rfl⟩ hb
          | cons => simp only [evA]
        | _ => simp only [evA]
      rw [ev] at p
      refine tE_of_tD ⟨env, P, φ, rel, Post.bind (ρ1 := ρD g) (fun _ _ _ _ _ _ _ _ h => h) p ?_⟩
      intro d env' v H' P' φ' _ rel' st hd k
      refine ih ⟨env', P', φ', rel', Post.bind (ρ1 := ρB g) (fun _ _ _ _ _ _ _ _ h => h) k ?_⟩
      intro ds env2 vs H2 P2 φ2 _ rel2 st2 hds k2
      exact k2.ok (b := v :: vs) rel2 (.cons (.inl (Dn.mono st2.pm hd)) hds)
  | _ =>
    rintro σ H Q ⟨env, P, φ, rel, p⟩
    simp only [tA, evA] at p
    exact p.elim
end
end PV
end

section
set_option Elab.async false
set_option linter.all false
set_option maxRecDepth 100000
set_option maxHeartbeats 1000000
/-! PV4: operators. -/
namespace PV
open PySem L2

section
variable {g : Gx} {W : WX} {cf mk : CF} {σ : L2.St} {H P : Hp}
/-- what an operation asks: it answers on the data of its arguments -/
def rPL (g : Gx) (p : PV.P) : List V → Hp → VK → Prop := fun vs H Q => ∃ P ds d, Sub P H ∧ Dbs g P H vs ds ∧ p.run ds = some d ∧
  ∀ v H' P' fp, Grow H P H' P' → On g P' H' v (freshP p d) d fp → fp.Nodup → (∀ a ∈ fp, H a = none ∧ P' a = none) → Q v H'
def rP1 (g : Gx) (p : PV.P) : V → Hp → VK → Prop := fun x H Q => rPL g p [x] H Q
def rP2 (g : Gx) (p : PV.P) : R2 := fun x y H Q => rPL g p [x, y] H Q
theorem tArgs_prim {p : PV.P} {as : C} {Q : VK} (h : tE g W cf mk (.prim p as) σ H Q) : tArgs g W cf mk as σ H fun vs H' => rPL g p vs H' Q := by
  obtain ⟨env, P, φ, rel, q⟩ := h
  refine tArgs_of as ⟨env, P, φ, rel, ?_⟩
  simp only [evE] at q
  refine Post.bind back_W q ?_
  intro ds env' vs H1 P1 φ1 _ rel1 st hds k
  simp only at k
  cases e : p.run ds with
  | none => rw [e] at k; exact k.elim
  | some d =>
    rw [e] at k
    refine ⟨P1, ds, d, rel1.sub, hds, e, fun v H' P' fp gr on nd ap => ?_⟩
    have rel2 := rel1.grow gr
    refine k v H' P' φ1 rel2 gr.step ⟨fp, on, nd, fun a ha => ⟨(ap a ha).1, (ap a ha).2, fun i hi => rel1.tr i a hi (ap a ha).1⟩⟩

/-! ### inversions -/
theorem Db.sub_l {v : V} {ds : List D} (s : Sub P H) (h : Db g P H v (.lst ds)) : ∃ a xs, v = .ref a ∧ SqL g.K H a xs ∧ Dns g P xs ds := by
  rcases h with h | ⟨fp, h⟩
  · cases h with
    | lst h r => exact ⟨_, _, rfl, sqL_mono s h, r⟩
  · cases h with
    | lst h r => exact ⟨_, _, rfl, .inl (.inl h), r.frz.1⟩
theorem Db.sub_t {v : V} {ds : List D} (s : Sub P H) (h : Db g P H v (.tup ds)) : ∃ a xs, v = .ref a ∧ SqT g.K H a xs ∧ Dns g P xs ds := by
  rcases h with h | ⟨fp, h⟩
  · cases h with
    | tup h r => exact ⟨_, _, rfl, sqT_mono s h, r⟩
  · cases h
theorem Db.sub_d {v : V} {ks vs : List D} (s : Sub P H) (h : Db g P H v (.dct ks vs)) : ∃ a kvs, v = .ref a ∧ H a = some (.dK kvs) ∧ ks = kvs.map (fun p => kD p.1) ∧ (kvs.map (·.1)).Nodup ∧ Dns g P (kvs.map (·.2)) vs := by
  rcases h with h | ⟨fp, h⟩
  · cases h with
    | dct h k n r => exact ⟨_, _, rfl, s _ _ h, k, n, r⟩
  · cases h with
    | dct h k n r => exact ⟨_, _, rfl, h, k, n, r.frz.1⟩
theorem Db.int {v : V} {i : Int} (h : Db g P H v (.int i)) : v = .int i := by
  rcases h with h | ⟨fp, h⟩ <;> cases h; rfl
theorem Db.bl {v : V} {i : Bool} (h : Db g P H v (.bl i)) : v = .bl i := by
  rcases h with h | ⟨fp, h⟩ <;> cases h; rfl
theorem Db.str {v : V} {i : Str} (h : Db g P H v (.str i)) : v = .str i := by
  rcases h with h | ⟨fp, h⟩ <;> cases h; rfl
theorem Db.non {v : V} (h : Db g P H v .non) : v = .non := by
  rcases h with h | ⟨fp, h⟩ <;> cases h; rfl
theorem Dbs.two {vs : List V} {a b : D} (h : Dbs g P H vs [a, b]) : ∃ x y, vs = [x, y] ∧ Db g P H x a ∧ Db g P H y b := by
  cases h with
  | cons h1 r => cases r with
    | cons h2 r => cases r; exact ⟨_, _, rfl, h1, h2⟩
theorem Dbs.one {vs : List V} {a : D} (h : Dbs g P H vs [a]) : ∃ x, vs = [x] ∧ Db g P H x a := by
  cases h with
  | cons h1 r => cases r; exact ⟨_, rfl, h1⟩
/-- the answer is data for good, nothing new -/
theorem give {Q : VK} {p : PV.P} {d : D} {v : V} (s : Sub P H) (k : ∀ v H' P' fp, Grow H P H' P' → On g P' H' v (freshP p d) d fp → fp.Nodup → (∀ a ∈ fp, H a = none ∧ P' a = none) → Q v H') (hf : freshP p d = .frz) (h : Dn g P v d) : Q v H :=
  k v H P [] (Grow.refl s) (by rw [hf]; exact .frz h) List.nodup_nil fun a ha => by simp at ha
/-- .. a new tuple -/
theorem giveT {Q : VK} {p : PV.P} {ds : List D} {xs : List V} (s : Sub P H) (k : ∀ v H' P' fp, Grow H P H' P' → On g P' H' v (freshP p (.tup ds)) (.tup ds) fp → fp.Nodup → (∀ a ∈ fp, H a = none ∧ P' a = none) → Q v H') (h : Dns g P xs ds) : ∀ q, H q = none → Q (.ref q) (upd H q (.tup xs)) := fun q hq =>
  k (.ref q) _ _ [] (Grow.new s hq _) (.frz (.tup (.inl (.inl upd_same)) (h.mono (Grow.new s hq _).pm))) List.nodup_nil fun a ha => by simp at ha
/-- .. a new list -/
theorem giveL {Q : VK} {p : PV.P} {ds : List D} {xs : List V} (s : Sub P H) (k : ∀ v H' P' fp, Grow H P H' P' → On g P' H' v (freshP p (.lst ds)) (.lst ds) fp → fp.Nodup → (∀ a ∈ fp, H a = none ∧ P' a = none) → Q v H') (hp : p.fresh = true) (h : Dns g P xs ds) : ∀ q, H q = none → Q (.ref q) (upd H q (.lst xs)) := fun q hq =>
  k (.ref q) _ P [q] (Grow.own s hq _) (by show On g P _ _ (if p.fresh then .own .frz else .frz) _ _; rw [hp]; exact .lst upd_same (.of_frz h)) (by simp) fun a ha => by
    have e : a = q := by simpa using ha
    subst e
    refine ⟨hq, ?_⟩
    cases z : P a with
    | none => rfl
    | some o => rw [s a o z] at hq; cases hq

theorem OpR.or {X : Cx} {f : Value → Value → Sem Value} {r r' : R2} (h : OpR X f r) (h' : OpR X f r') : OpR X f (fun x y H Q => r x y H Q ∨ r' x y H Q) := fun pins s σ H x y v u Q I rx ry q =>
  q.elim (h pins s σ H x y v u Q I rx ry) (h' pins s σ H x y v u Q I rx ry)
end

/-- a one-place, a two-place operation's arguments -/
theorem run1_some {f : D → Option D} {ds : List D} {d : D} (h : run1 f ds = some d) : ∃ a, ds = [a] ∧ f a = some d := by
  unfold run1 at h
  split at h
  · exact ⟨_, rfl, h⟩
  · cases h
theorem run2_some {f : D → D → Option D} {ds : List D} {d : D} (h : run2 f ds = some d) : ∃ a b, ds = [a, b] ∧ f a b = some d := by
  unfold run2 at h
  split at h
  · exact ⟨_, _, rfl, h⟩
  · cases h
theorem run3_some {f : D → D → D → Option D} {ds : List D} {d : D} (h : run3 f ds = some d) : ∃ a b c, ds = [a, b, c] ∧ f a b c = some d := by
  unfold run3 at h
  split at h
  · exact ⟨_, _, _, rfl, h⟩
  · cases h
section
variable {g : Gx} {H : Hp}
/-- what a two-place operation is asked: two arguments' data and their answer -/
theorem rP2_inv {p : PV.P} {f : D → D → Option D} {x y : V} {Q : VK} (e : p.run = run2 f) (h : rP2 g p x y H Q) : ∃ P a b d, Sub P H ∧ Db g P H x a ∧ Db g P H y b ∧ f a b = some d ∧
    ∀ v H' P' fp, Grow H P H' P' → On g P' H' v (freshP p d) d fp → fp.Nodup → (∀ a ∈ fp, H a = none ∧ P' a = none) → Q v H' := by
  obtain ⟨P, ds, d, sub, db, hr, k⟩ := h
  rw [e] at hr
  obtain ⟨a, b, rfl, hf⟩ := run2_some hr
  obtain ⟨_, _, e, h1, h2⟩ := db.two
  cases e
  exact ⟨P, a, b, d, sub, h1, h2, hf, k⟩
theorem rP1_inv {p : PV.P} {f : D → Option D} {x : V} {Q : VK} (e : p.run = run1 f) (h : rP1 g p x H Q) : ∃ P a d, Sub P H ∧ Db g P H x a ∧ f a = some d ∧
    ∀ v H' P' fp, Grow H P H' P' → On g P' H' v (freshP p d) d fp → fp.Nodup → (∀ a ∈ fp, H a = none ∧ P' a = none) → Q v H' := by
  obtain ⟨P, ds, d, sub, db, hr, k⟩ := h
  rw [e] at hr
  obtain ⟨a, rfl, hf⟩ := run1_some hr
  obtain ⟨_, e, h1⟩ := db.one
  cases e
  exact ⟨P, a, d, sub, h1, hf, k⟩
end


theorem lim_eq : lim = sizeLine := by rw [sizeLine_eq]; rfl
section
variable {X : Cx} {g : Gx}
/-- list + list, as they are read -/
theorem op_catR : OpR X (binaryOp .Add) (fun x y H Q => ∃ l b xs ys, x = .ref l ∧ y = .ref b ∧ SqL X.K H l xs ∧ SqL X.K H b ys ∧ xs.length + ys.length ≤ sizeLine ∧ ∀ p, H p = none → Q (.ref p) (upd H p (.lst (xs ++ ys)))) := by
  intro pins s σ H x y v u Q I rx ry h
  obtain ⟨l, b, xs, ys, rfl, rfl, h1, h2, hz, q⟩ := h
  cases rx; cases ry
  obtain ⟨vs, r1, p1, _⟩ := I.list h1
  obtain ⟨ws, r2, p2, _⟩ := I.list h2
  obtain ⟨⟨cls, dd, data, sl⟩, ho, hc, n, hd⟩ := p1.isList
  obtain ⟨⟨cls2, dd2, data2, sl2⟩, ho2, hc2, n2, hd2⟩ := p2.isList
  simp only at hc hd hc2 hd2
  subst hc hd hc2 hd2
  have e : vs.toArray ++ ws.toArray = (vs ++ ws).toArray := by simp
  have hl1 := r1.length
  have hl2 := r2.length
  refine PySem.concat_meets ⟨_, ho, rfl⟩ ⟨_, ho2, rfl⟩ noFill_list_add seq_list_add PySem.F.slot_list_add PySem.F.entry_list_add (PySem.F.args_list_add_2 _ _) (PyProof.Rows.list_addW l b vs.toArray ws.toArray n n2 dd dd2 sl sl2 (by simp; omega)) ⟨ho, ho2, ?_⟩
  rw [e]
  exact ⟨.ref _, _, I.lnew (t' := s.toks) (r1.append r2) (by rw [List.length_append]; omega), rfl, q _ I.fresh⟩
theorem r_add (hK : X.K = g.K) : OpR X (binaryOp .Add) (rP2 g .add) := by
  intro pins s σ H x y v u Q I rx ry h
  obtain ⟨P, a, b, d, sub, h1, h2, hf, k⟩ := rP2_inv rfl h
  unfold addD at hf
  split at hf
  · cases hf
    rw [h1.int] at rx; rw [h2.int] at ry
    exact op_add pins s σ H _ _ v u Q I rx ry ⟨_, _, rfl, rfl, give sub k rfl (.int _)⟩
  · split at hf
    · rename_i hl
      cases hf
      rw [h1.str] at rx; rw [h2.str] at ry
      exact op_add_str pins s σ H _ _ v u Q I rx ry ⟨_, _, rfl, rfl, by rw [lim_eq] at hl; exact hl, give sub k rfl (.str _)⟩
    · cases hf
  · split at hf
    · rename_i hl
      cases hf
      obtain ⟨a, xs, rfl, q1, n1⟩ := h1.sub_t sub
      obtain ⟨b, ys, rfl, q2, n2⟩ := h2.sub_t sub
      have hk := k
      refine op_catA pins s σ H _ _ v u Q I rx ry ⟨_, _, _, _, rfl, rfl, by rw [hK]; exact q1, by rw [hK]; exact q2, by rw [n1.length, n2.length]; rw [lim_eq] at hl; exact hl, fun ex => ?_, fun _ ey => ?_, fun _ _ => giveT sub k (n1.append n2)⟩
      · subst ex
        cases n1
        rcases h2 with h2 | ⟨_, h2⟩
        · exact give sub k rfl h2
        · cases h2
      · subst ey
        cases n2
        rcases h1 with h1 | ⟨_, h1⟩
        · exact give sub k rfl (by simpa using h1)
        · cases h1
    · cases hf
  · split at hf
    · rename_i hl
      cases hf
      obtain ⟨a, xs, rfl, q1, n1⟩ := h1.sub_l sub
      obtain ⟨b, ys, rfl, q2, n2⟩ := h2.sub_l sub
      exact op_catR pins s σ H _ _ v u Q I rx ry ⟨_, _, _, _, rfl, rfl, by rw [hK]; exact q1, by rw [hK]; exact q2, by rw [n1.length, n2.length]; rw [lim_eq] at hl; exact hl, giveL sub k rfl (n1.append n2)⟩
    · cases hf
  · cases hf
theorem r_sub : OpR X (binaryOp .Sub) (rP2 g .sub) := by
  intro pins s σ H x y v u Q I rx ry h
  obtain ⟨P, a, b, d, sub, h1, h2, hf, k⟩ := rP2_inv rfl h
  unfold subD at hf
  split at hf
  · cases hf
    rw [h1.int] at rx; rw [h2.int] at ry
    exact op_sub pins s σ H _ _ v u Q I rx ry ⟨_, _, rfl, rfl, give sub k rfl (.int _)⟩
  · cases hf
theorem r_mul : OpR X (binaryOp .Mult) (rP2 g .mul) := by
  intro pins s σ H x y v u Q I rx ry h
  obtain ⟨P, a, b, d, sub, h1, h2, hf, k⟩ := rP2_inv rfl h
  unfold mulD at hf
  split at hf
  · split at hf
    · rename_i hm
      cases hf
      rw [h1.int] at rx; rw [h2.int] at ry
      refine op_mul pins s σ H _ _ v u Q I rx ry ⟨_, _, rfl, rfl, ?_, give sub k rfl (.int _)⟩
      unfold mulOk at hm
      simp only [Bool.or_eq_true, Bool.and_eq_true, decide_eq_true_eq] at hm
      unfold CMul
      omega
    · cases hf
  · cases hf
theorem r_fdiv : OpR X (binaryOp .FloorDiv) (rP2 g .fdiv) := by
  intro pins s σ H x y v u Q I rx ry h
  obtain ⟨P, a, b, d, sub, h1, h2, hf, k⟩ := rP2_inv rfl h
  unfold fdivD at hf
  split at hf
  · split at hf
    · rename_i hm
      cases hf
      rw [h1.int] at rx; rw [h2.int] at ry
      simp only [Bool.and_eq_true, decide_eq_true_eq] at hm
      exact op_fdiv pins s σ H _ _ v u Q I rx ry ⟨_, _, rfl, rfl, hm, give sub k rfl (.int _)⟩
    · cases hf
  · cases hf
theorem r_mod : OpR X (binaryOp .Mod) (rP2 g .mod) := by
  intro pins s σ H x y v u Q I rx ry h
  obtain ⟨P, a, b, d, sub, h1, h2, hf, k⟩ := rP2_inv rfl h
  unfold modD at hf
  split at hf
  · split at hf
    · rename_i hm
      cases hf
      rw [h1.int] at rx; rw [h2.int] at ry
      exact op_mod pins s σ H _ _ v u Q I rx ry ⟨_, _, rfl, rfl, hm, give sub k rfl (.int _)⟩
    · cases hf
  · cases hf
theorem r_pow : OpR X (binaryOp .Pow) (rP2 g .pow) := by
  intro pins s σ H x y v u Q I rx ry h
  obtain ⟨P, a, b, d, sub, h1, h2, hf, k⟩ := rP2_inv rfl h
  unfold powD at hf
  split at hf
  · split at hf
    · rename_i hm
      cases hf
      rw [h1.int] at rx; rw [h2.int] at ry
      simp only [Bool.and_eq_true, decide_eq_true_eq] at hm
      exact op_pow pins s σ H _ _ v u Q I rx ry ⟨_, _, rfl, rfl, ⟨hm.1.1, hm.1.2, hm.2⟩, give sub k rfl (.int _)⟩
    · cases hf
  · cases hf
theorem r_neg : UnR X (unaryOp .USub) (rP1 g .neg) := by
  intro pins s σ H x v Q I rx h
  obtain ⟨P, a, d, sub, h1, hf, k⟩ := rP1_inv rfl h
  unfold negD at hf
  split at hf
  · cases hf
    rw [h1.int] at rx
    exact un_neg pins s σ H _ v Q I rx ⟨_, rfl, give sub k rfl (.int _)⟩
  · cases hf
theorem r_cmp {op : CmpOp} {p : PV.P} {f : Int → Int → Bool} (e : p.run = run2 (cmpD f)) (hp : ∀ b, freshP p (.bl b) = .frz) (ho : OpR X (compareOp op) (rI0 fun i j => .bl (f i j))) : OpR X (compareOp op) (rP2 g p) := by
  intro pins s σ H x y v u Q I rx ry h
  obtain ⟨P, a, b, d, sub, h1, h2, hf, k⟩ := rP2_inv e h
  unfold cmpD at hf
  split at hf
  · cases hf
    rw [h1.int] at rx; rw [h2.int] at ry
    exact ho pins s σ H _ _ v u Q I rx ry ⟨_, _, rfl, rfl, give sub k (hp _) (.bl _)⟩
  · cases hf
theorem r_lt : OpR X (compareOp .Lt) (rP2 g .lt) := r_cmp rfl (fun _ => rfl) op_lt
theorem r_le : OpR X (compareOp .LtE) (rP2 g .le) := r_cmp rfl (fun _ => rfl) op_le
theorem r_gt : OpR X (compareOp .Gt) (rP2 g .gt) := r_cmp rfl (fun _ => rfl) op_gt
theorem r_ge : OpR X (compareOp .GtE) (rP2 g .ge) := r_cmp rfl (fun _ => rfl) op_ge
end

/-! ### == of data -/
mutual
theorem okd_lay : ∀ (n : Nat) (d : D), D.okd n d = true → (D.toP d).canLay0 = true ∧ (D.toP d).depth ≤ n
  | _, .non, _ => ⟨by simp only [D.toP, PyData.canLay0], by simp only [D.toP, PyData.depth]; omega⟩
  | _, .bl _, _ => ⟨by simp only [D.toP, PyData.canLay0], by simp only [D.toP, PyData.depth]; omega⟩
  | _, .int _, _ => ⟨by simp only [D.toP, PyData.canLay0], by simp only [D.toP, PyData.depth]; omega⟩
  | n, .str x, h => ⟨by simp only [D.toP, PyData.canLay0]; cases n <;> simpa only [D.okd] using h, by simp only [D.toP, PyData.depth]; omega⟩
  | 0, .tup ds, h => by simp only [D.okd, Bool.false_eq_true] at h
  | 0, .lst ds, h => by simp only [D.okd, Bool.false_eq_true] at h
  | n + 1, .tup ds, h => by
    obtain ⟨a, b⟩ := okds_lay n ds (by simpa only [D.okd] using h)
    exact ⟨by simp only [D.toP, PyData.canLay0]; exact a, by simp only [D.toP, PyData.depth]; omega⟩
  | n + 1, .lst ds, h => by
    obtain ⟨a, b⟩ := okds_lay n ds (by simpa only [D.okd] using h)
    exact ⟨by simp only [D.toP, PyData.canLay0]; exact a, by simp only [D.toP, PyData.depth]; omega⟩
  | n, .dct .., h => by cases n <;> simp only [D.okd, Bool.false_eq_true] at h
  | n, .ins .., h => by cases n <;> simp only [D.okd, Bool.false_eq_true] at h
  | n, .fn .., h => by cases n <;> simp only [D.okd, Bool.false_eq_true] at h
  | n, .unset, h => by cases n <;> simp only [D.okd, Bool.false_eq_true] at h
theorem okds_lay : ∀ (n : Nat) (ds : List D), D.okds n ds = true → PyData.canLayAll0 (D.toPs ds) = true ∧ PyData.depthAll (D.toPs ds) ≤ n
  | n, [], _ => ⟨by simp only [D.toPs, PyData.canLayAll0], by simp only [D.toPs, PyData.depthAll]; omega⟩
  | n, d :: ds, h => by
    simp only [D.okds, Bool.and_eq_true] at h
    obtain ⟨a, b⟩ := okd_lay n d h.1
    obtain ⟨a', b'⟩ := okds_lay n ds h.2
    exact ⟨by simp only [D.toPs, PyData.canLayAll0, a, a', Bool.and_self], by simp only [D.toPs, PyData.depthAll]; omega⟩
end
theorem okd_shaped {d : D} (h : D.okd 60 d = true) : SeqAt.shaped (D.toP d) = true := by
  obtain ⟨a, b⟩ := okd_lay 60 d h
  unfold SeqAt.shaped
  rw [a, Bool.true_and]
  exact decide_eq_true (by omega)
section
variable {g : Gx} {P H : Hp}
mutual
theorem Dn.dp : ∀ (n : Nat) (d : D) (v : V), Dn g P v d → Sub P H → D.okd n d = true → Dp g.K H v (D.toP d)
  | _, .non, _, .non, _, _ => by simp only [D.toP]; exact .non
  | _, .bl _, _, .bl b, _, _ => by simp only [D.toP]; exact .bl b
  | _, .int _, _, .int i, _, _ => by simp only [D.toP]; exact .int i
  | _, .str _, _, .str x, _, _ => by simp only [D.toP]; exact .str x
  | 0, .tup _, _, _, _, h => by simp only [D.okd, Bool.false_eq_true] at h
  | 0, .lst _, _, _, _, h => by simp only [D.okd, Bool.false_eq_true] at h
  | n + 1, .tup ds, _, .tup hs r, s, h => by
    simp only [D.toP]
    exact .tup (sqT_mono s hs) (Dns.dp n ds _ r s (by simpa only [D.okd] using h))
  | n + 1, .lst ds, _, .lst hs r, s, h => by
    simp only [D.toP]
    exact .lst (sqL_mono s hs) (Dns.dp n ds _ r s (by simpa only [D.okd] using h))
  | n, .dct .., _, _, _, h => by cases n <;> simp only [D.okd, Bool.false_eq_true] at h
  | n, .ins .., _, _, _, h => by cases n <;> simp only [D.okd, Bool.false_eq_true] at h
  | n, .fn .., _, _, _, h => by cases n <;> simp only [D.okd, Bool.false_eq_true] at h
  | n, .unset, _, _, _, h => by cases n <;> simp only [D.okd, Bool.false_eq_true] at h
theorem Dns.dp : ∀ (n : Nat) (ds : List D) (vs : List V), Dns g P vs ds → Sub P H → D.okds n ds = true → DpAll g.K H vs (D.toPs ds)
  | _, [], _, .nil, _, _ => by simp only [D.toPs]; exact .nil
  | n, d :: ds, _, .cons h r, s, k => by
    simp only [D.okds, Bool.and_eq_true] at k
    simp only [D.toPs]
    exact .cons (Dn.dp n d _ h s k.1) (Dns.dp n ds _ r s k.2)
end
theorem Db.dp {v : V} {d : D} (h : Db g P H v d) (s : Sub P H) (k : D.okd 60 d = true) : Dp g.K H v (D.toP d) := by
  rcases h with h | ⟨fp, h⟩
  · exact h.dp 60 d v s k
  · cases h with
    | lst e r =>
      simp only [D.toP]
      exact .lst (.inl (.inl e)) (r.frz.1.dp 59 _ _ s (by simpa only [D.okd] using k))
    | dct => simp only [D.okd, Bool.false_eq_true] at k
end
mutual
theorem eqv_toP : ∀ (n : Nat) (a b : D), D.okd n a = true → D.okd n b = true → PyData.eqv (D.toP a) (D.toP b) = D.eqv a b
  | 0, a, b, ha, hb => by
    cases a <;> simp only [D.okd, Bool.false_eq_true] at ha <;> cases b <;> simp only [D.okd, Bool.false_eq_true] at hb <;> simp [D.toP, PyData.eqv, D.eqv] <;> rfl
  | n + 1, a, b, ha, hb => by
    cases a with
    | tup xs => cases b with
      | tup ys => simp only [D.toP, PyData.eqv, D.eqv]; exact eqvs_toP n xs ys (by simpa only [D.okd] using ha) (by simpa only [D.okd] using hb)
      | _ => first | (simp only [D.okd, Bool.false_eq_true] at hb; done) | simp [D.toP, PyData.eqv, D.eqv]
    | lst xs => cases b with
      | lst ys => simp only [D.toP, PyData.eqv, D.eqv]; exact eqvs_toP n xs ys (by simpa only [D.okd] using ha) (by simpa only [D.okd] using hb)
      | _ => first | (simp only [D.okd, Bool.false_eq_true] at hb; done) | simp [D.toP, PyData.eqv, D.eqv]
    | _ => first | (simp only [D.okd, Bool.false_eq_true] at ha; done) | (cases b <;> first | (simp only [D.okd, Bool.false_eq_true] at hb; done) | (simp [D.toP, PyData.eqv, D.eqv] <;> rfl) | rfl)
theorem eqvs_toP : ∀ (n : Nat) (a b : List D), D.okds n a = true → D.okds n b = true → PyData.eqvAll (D.toPs a) (D.toPs b) = D.eqvs a b
  | n, [], b, ha, hb => by cases b <;> simp [D.toPs, PyData.eqvAll, D.eqvs]
  | n, x :: xs, [], ha, hb => by simp [D.toPs, PyData.eqvAll, D.eqvs]
  | n, x :: xs, y :: ys, ha, hb => by
    simp only [D.okds, Bool.and_eq_true] at ha hb
    simp only [D.toPs, PyData.eqvAll, D.eqvs, eqv_toP n x y ha.1 hb.1, eqvs_toP n xs ys ha.2 hb.2]
end
end PV
end

section
set_option Elab.async false
set_option linter.all false
set_option maxRecDepth 100000
set_option maxHeartbeats 1000000
/-! PV5: comparisons, places, slices, built-in calls. -/
namespace PV
open PySem L2

section
variable {X : Cx} {g : Gx}
theorem eq_core {op : CmpOp} {neg : Bool} {p : PV.P} {r : R2} (hK : X.K = g.K) (e : p.run = run2 fun a b => (eqD a b).map fun c => .bl (neg != c)) (hp : ∀ b, freshP p (.bl b) = .frz)
    (h1 : OpR X (compareOp op) (fun x y H Q => scal x y = true ∧ Q (.bl (neg != decide (x = y))) H))
    (h2 : OpR X (compareOp op) (fun x y H Q => ∃ d e, Dp X.K H x d ∧ Dp X.K H y e ∧ SeqAt.shaped d = true ∧ SeqAt.shaped e = true ∧ Q (.bl (neg != PyData.eqv d e)) H)) : OpR X (compareOp op) (rP2 g p) := by
  intro pins s σ H x y v u Q I rx ry h
  obtain ⟨P, a, b, d, sub, q1, q2, hf, k⟩ := rP2_inv e h
  cases he : eqD a b with
  | none => rw [he] at hf; cases hf
  | some c =>
    rw [he] at hf
    cases hf
    have hk : Q (.bl (neg != c)) H := give sub k (hp _) (.bl _)
    unfold eqD at he
    split at he
    case h_15 =>
      split at he
      · rename_i ok
        rw [Bool.and_eq_true] at ok
        cases he
        refine h2 pins s σ H _ _ v u Q I rx ry ⟨_, _, by rw [hK]; exact q1.dp sub ok.1, by rw [hK]; exact q2.dp sub ok.2, okd_shaped ok.1, okd_shaped ok.2, ?_⟩
        rw [eqv_toP 60 _ _ ok.1 ok.2]
        exact hk
      · cases he
    all_goals
      cases he
      first | (rw [q1.int] at rx) | (rw [q1.str] at rx) | (rw [q1.bl] at rx) | (rw [q1.non] at rx)
      first | (rw [q2.int] at ry) | (rw [q2.str] at ry) | (rw [q2.bl] at ry) | (rw [q2.non] at ry)
      refine h1 pins s σ H _ _ v u Q I rx ry ⟨rfl, ?_⟩
      first | exact hk | (simpa using hk) | (cases neg <;> simpa using hk)
theorem r_eq (hK : X.K = g.K) (hu : X.A.units + 64 < cLine) : OpR X (compareOp .Eq) (rP2 g .eq) := by
  refine eq_core (neg := false) (r := rEq) hK ?_ (fun _ => rfl) ?_ ?_
  · show (run2 fun a b => (eqD a b).map D.bl) = _
    congr 1; funext a b; congr 1; funext c; simp
  · intro pins s σ H x y v u Q I rx ry h
    exact op_eq pins s σ H x y v u Q I rx ry ⟨h.1, by simpa using h.2⟩
  · intro pins s σ H x y v u Q I rx ry ⟨d, e, a1, a2, a3, a4, a5⟩
    exact op_eqD hu pins s σ H x y v u Q I rx ry ⟨d, e, a1, a2, a3, a4, by simpa using a5⟩
theorem r_ne (hK : X.K = g.K) (hu : X.A.units + 64 < cLine) : OpR X (compareOp .NotEq) (rP2 g .ne) := by
  refine eq_core (neg := true) (r := rNe) hK ?_ (fun _ => rfl) ?_ ?_
  · show (run2 fun a b => (eqD a b).map fun c => D.bl (!c)) = _
    congr 1; funext a b; congr 1; funext c; simp
  · intro pins s σ H x y v u Q I rx ry h
    exact op_ne pins s σ H x y v u Q I rx ry ⟨h.1, by simpa using h.2⟩
  · intro pins s σ H x y v u Q I rx ry ⟨d, e, a1, a2, a3, a4, a5⟩
    exact op_neD hu pins s σ H x y v u Q I rx ry ⟨d, e, a1, a2, a3, a4, by simpa using a5⟩
end
section
variable {g : Gx} {P H : Hp}
theorem Dn.flat {v : V} {d : D} (h : Dn g P v d) (s : D.scalar d = true) : flatV v = true := by
  cases h <;> first | rfl | cases s
theorem Dns.flats : ∀ {vs : List V} {ds : List D}, Dns g P vs ds → ds.all D.scalar = true → vs.all flatV = true
  | _, _, .nil, _ => rfl
  | _, _, .cons h r, s => by
    simp only [List.all_cons, Bool.and_eq_true] at s ⊢
    exact ⟨h.flat s.1, r.flats s.2⟩
theorem Dn.eqV {v u : V} {d e : D} (h : Dn g P v d) (k : Dn g P u e) (s : D.scalar d = true) (t : D.scalar e = true) : eqV v u = D.eqv d e := by
  cases h <;> first | (cases s; done) | (cases k <;> first | (cases t; done) | rfl | (simp [L2.eqV, D.eqv]; try rfl) | (simp only [L2.eqV, D.eqv]; exact Bool.beq_eq_decide_eq _ _))
theorem Dns.inV {v : V} {d : D} (h : Dn g P v d) (s : D.scalar d = true) : ∀ {vs : List V} {ds : List D}, Dns g P vs ds → ds.all D.scalar = true → (vs.any fun y => L2.eqV y v) = ds.any fun y => D.eqv y d
  | _, _, .nil, _ => rfl
  | _, _, .cons k r, t => by
    simp only [List.all_cons, Bool.and_eq_true] at t
    simp only [List.any_cons]
    rw [k.eqV h t.1 s, Dns.inV h s r t.2]
theorem Db.dn {v : V} {d : D} (h : Db g P H v d) (s : D.scalar d = true) : Dn g P v d := by
  rcases h with h | ⟨fp, h⟩
  · exact h
  · cases h <;> cases s
theorem rangeD_length : ∀ (n : Nat) (lo : Int), (rangeD lo n).length = n
  | 0, _ => rfl
  | n + 1, lo => by simp only [rangeD, List.length_cons, rangeD_length n]
theorem intsD_map : ∀ {ds : List D} {ns : List Int}, intsD ds = some ns → ds = ns.map D.int
  | [], ns, h => by cases h; rfl
  | .int i :: r, ns, h => by
    simp only [intsD, Option.map_eq_some_iff] at h
    obtain ⟨m, e, rfl⟩ := h
    rw [List.map_cons, ← intsD_map e]
  | .non :: r, _, h => by simp [intsD] at h
  | .bl _ :: r, _, h => by simp [intsD] at h
  | .str _ :: r, _, h => by simp [intsD] at h
  | .tup _ :: r, _, h => by simp [intsD] at h
  | .lst _ :: r, _, h => by simp [intsD] at h
  | .dct _ _ :: r, _, h => by simp [intsD] at h
  | .ins _ _ :: r, _, h => by simp [intsD] at h
  | .fn _ :: r, _, h => by simp [intsD] at h
  | .unset :: r, _, h => by simp [intsD] at h
theorem boolsD_map : ∀ {ds : List D} {ns : List Bool}, boolsD ds = some ns → ds = ns.map D.bl
  | [], ns, h => by cases h; rfl
  | .bl i :: r, ns, h => by
    simp only [boolsD, Option.map_eq_some_iff] at h
    obtain ⟨m, e, rfl⟩ := h
    rw [List.map_cons, ← boolsD_map e]
  | .non :: r, _, h => by simp [boolsD] at h
  | .int _ :: r, _, h => by simp [boolsD] at h
  | .str _ :: r, _, h => by simp [boolsD] at h
  | .tup _ :: r, _, h => by simp [boolsD] at h
  | .lst _ :: r, _, h => by simp [boolsD] at h
  | .dct _ _ :: r, _, h => by simp [boolsD] at h
  | .ins _ _ :: r, _, h => by simp [boolsD] at h
  | .fn _ :: r, _, h => by simp [boolsD] at h
  | .unset :: r, _, h => by simp [boolsD] at h
theorem Dns.ints : ∀ {vs : List V} {ns : List Int}, Dns g P vs (ns.map D.int) → vs = ns.map V.int
  | _, [], h => by cases h; rfl
  | _, n :: ns, h => by
    rw [List.map_cons] at h
    cases h with
    | cons h r => cases h; rw [List.map_cons, ← Dns.ints r]
theorem Dns.bools : ∀ {vs : List V} {ns : List Bool}, Dns g P vs (ns.map D.bl) → vs = ns.map V.bl
  | _, [], h => by cases h; rfl
  | _, n :: ns, h => by
    rw [List.map_cons] at h
    cases h with
    | cons h r => cases h; rw [List.map_cons, ← Dns.bools r]
theorem Dns.of_ints : ∀ (ns : List Int), Dns g P (ns.map V.int) (ns.map D.int)
  | [] => .nil
  | n :: ns => .cons (.int n) (Dns.of_ints ns)
theorem Dns.cut {xs : List V} {ds : List D} (h : Dns g P xs ds) (lo hi : Option Int) : Dns g P (cutV xs lo hi) (PV.cut ds lo hi) := by
  unfold cutV PV.cut
  rw [h.length]
  exact (h.drop _).take _
/-- keys -/
theorem kD_keyS (k : Key) : D.keyS (kD k) = true := by cases k <;> rfl
theorem keyS_kD {d : D} (h : D.keyS d = true) : ∃ k, d = kD k := by
  cases d <;> first | (cases h; done) | exact ⟨.inl _, rfl⟩ | exact ⟨.inr _, rfl⟩
theorem kD_inj {a b : Key} (h : kD a = kD b) : a = b := by
  cases a <;> cases b <;> first | (cases h; rfl) | cases h
theorem Dn.key {v : V} {k : Key} (h : Dn g P v (kD k)) : v = kV k := by
  cases k <;> (cases h; rfl)
theorem same_kD (a b : Key) : D.same (kD a) (kD b) = decide (a = b) := by
  by_cases e : a = b
  · subst e
    rw [decide_eq_true rfl]
    exact (D.same_iff _ _).mpr rfl
  · rw [decide_eq_false e]
    cases h : D.same (kD a) (kD b) with
    | false => rfl
    | true => exact absurd (kD_inj ((D.same_iff _ _).mp h)) e
theorem keyAt_lt : ∀ {ks : List D} {k : D} {i : Nat}, keyAt ks k = some i → i < ks.length
  | x :: xs, k, i, h => by
    unfold keyAt at h
    split at h
    · cases h; simp
    · obtain ⟨j, e, rfl⟩ := Option.map_eq_some_iff.mp h
      have := keyAt_lt e
      simp only [List.length_cons]; omega
/-- what a dict has at a key -/
theorem valV_at (k : Key) : ∀ (kvs : List (Key × V)) {vs : List D}, Dns g P (kvs.map (·.2)) vs →
    match (keyAt (kvs.map fun p => kD p.1) (kD k)).bind fun i => vs[i]? with
    | some d => ∃ v, valV kvs k = some v ∧ Dn g P v d
    | none => valV kvs k = none
  | [], vs, h => by
    cases h
    show valV ([] : List (Key × V)) k = none
    rfl
  | (k', v') :: r, vs, h => by
    cases h with
    | @cons _ _ d ds h t =>
      have ih := valV_at k r t
      simp only [List.map_cons, keyAt, same_kD]
      by_cases e : k' = k
      · subst e
        simp only [decide_true, if_true, Option.bind_some, List.getElem?_cons_zero]
        exact ⟨v', valV_pos rfl, h⟩
      · simp only [e, decide_false, Bool.false_eq_true, if_false]
        rw [valV_neg (show ¬ (k', v').1 = k from e)]
        cases q : keyAt (r.map fun p => kD p.1) (kD k) with
        | none => rw [q] at ih; simpa using ih
        | some i => rw [q] at ih; simpa using ih
end

section
variable {X : Cx} {g : Gx}
theorem in_at {P : Hp} {kk : Key} {kvs : List (Key × V)} {vs : List D} (n : Dns g P (kvs.map (·.2)) vs) : (valV kvs kk).isSome = (keyAt (kvs.map fun p => kD p.1) (kD kk)).isSome := by
  have hv := valV_at kk kvs n
  have hl : (kvs.map fun p => kD p.1).length = vs.length := by have := n.length; simpa using this
  cases q : keyAt (kvs.map fun p => kD p.1) (kD kk) with
  | none => rw [q] at hv; simp only [Option.bind_none] at hv; rw [hv]; rfl
  | some i =>
    rw [q] at hv
    simp only [Option.bind_some] at hv
    have hi : i < vs.length := by rw [← hl]; exact keyAt_lt q
    rw [List.getElem?_eq_getElem hi] at hv
    obtain ⟨v, e, _⟩ := hv
    rw [e]; rfl
theorem r_isin {neg : Bool} {op : CmpOp} {p : PV.P} (hK : X.K = g.K) (e : p.run = run2 (isinD neg)) (hp : ∀ b, freshP p (.bl b) = .frz) (ho : OpR X (compareOp op) (rIn X.K neg))
    (hd : OpR X (compareOp op) (fun x y H Q => ∃ a o, y = .ref a ∧ DGet H a x o ∧ Q (.bl (neg != o.isSome)) H)) : OpR X (compareOp op) (rP2 g p) := by
  intro pins s σ H x y v u Q I rx ry h
  obtain ⟨P, a, b, d, sub, q1, q2, hf, k⟩ := rP2_inv e h
  unfold isinD at hf
  split at hf
  · split at hf
    · rename_i ok
      rw [Bool.and_eq_true] at ok
      cases hf
      obtain ⟨t, xs, rfl, hs, n⟩ := q2.sub_t sub
      have d1 := q1.dn ok.1
      refine ho pins s σ H _ _ v u Q I rx ry ⟨_, _, rfl, .inr (by rw [hK]; exact hs), d1.flat ok.1, n.flats ok.2, ?_⟩
      have e2 := Dns.inV d1 ok.1 n ok.2
      have e3 : (if neg then !inV x xs else inV x xs) = (neg != inV x xs) := by cases neg <;> simp
      rw [e3]
      show Q (.bl (neg != xs.any fun y => L2.eqV y x)) H
      rw [e2]
      exact give sub k (hp _) (.bl _)
    · cases hf
  · split at hf
    · rename_i ok
      rw [Bool.and_eq_true] at ok
      cases hf
      obtain ⟨t, xs, rfl, hs, n⟩ := q2.sub_l sub
      have d1 := q1.dn ok.1
      refine ho pins s σ H _ _ v u Q I rx ry ⟨_, _, rfl, .inl (by rw [hK]; exact hs), d1.flat ok.1, n.flats ok.2, ?_⟩
      have e2 := Dns.inV d1 ok.1 n ok.2
      have e3 : (if neg then !inV x xs else inV x xs) = (neg != inV x xs) := by cases neg <;> simp
      rw [e3]
      show Q (.bl (neg != xs.any fun y => L2.eqV y x)) H
      rw [e2]
      exact give sub k (hp _) (.bl _)
    · cases hf
  · split at hf
    · rename_i ok
      cases hf
      obtain ⟨kk, rfl⟩ := keyS_kD ok
      obtain ⟨t, kvs, rfl, hx, rfl, _, n⟩ := q2.sub_d sub
      have hy := (q1.dn (by cases kk <;> rfl)).key
      refine hd pins s σ H _ _ v u Q I rx ry ⟨t, _, rfl, by rw [hy]; exact DGet.k hx, ?_⟩
      rw [in_at n]
      exact give sub k (hp _) (.bl _)
    · cases hf
  · cases hf
theorem r_in (hK : X.K = g.K) (hu : X.A.units + 1 < cLine) : OpR X (compareOp .In) (rP2 g .isin) := r_isin hK rfl (fun _ => rfl) op_in_seq (by
  rintro pins s σ H x y v u Q I rx ry ⟨a, o, rfl, gt, q⟩
  cases ry
  exact d_in hu I gt rx fun s' I' => ⟨.bl _, H, I', rfl, by simpa using q⟩)
theorem r_notin (hK : X.K = g.K) (hu : X.A.units + 1 < cLine) : OpR X (compareOp .NotIn) (rP2 g .notin) := r_isin hK rfl (fun _ => rfl) op_notIn_seq (by
  rintro pins s σ H x y v u Q I rx ry ⟨a, o, rfl, gt, q⟩
  cases ry
  exact d_notIn hu I gt rx fun s' I' => ⟨.bl _, H, I', rfl, by simpa using q⟩)
/-- d[k] -/
theorem ix_dict (hu : X.A.units + 1 < cLine) : IxR X (fun x y H Q => ∃ a v, x = .ref a ∧ DGet H a y (some v) ∧ Q v H) := by
  intro value slice pins s σ H x y v u Q I rx ry h hs
  obtain ⟨a, z, rfl, gt, q⟩ := h
  cases rx
  have hT := dict_typeIs I gt
  unfold PyProof.Rows.subscriptTail
  refine wpAny_bind ?_
  rw [getitemInPython_of_ne hT.not_modules]
  refine wpAny_bind (wpAny_specialOf hT PySem.F.slot_dict_getitem.lookup ?_)
  have fin : wpAny (model X.prog X.w) X.A (subscripted slice false (.ref a) u) (fun r s₃ => wpAny (model X.prog X.w) X.A (letTemporaryGo value (.ref a) r >>= fun _ => pure r) (EP X pins σ Q) X.xe s₃) X.xe s := by
    rw [hs]
    exact wpAny_operating (d_getItem hu I gt ry fun w' s3 I3 rw' => wpAny_bind (wpAny_letTemporaryGo (wpAny_pure ⟨z, H, I3, rw', q⟩)))
  first
    | exact wpAny_pure (wpAny_bind fin)
    | exact wpAny_bind (wpAny_pure (wpAny_bind fin))
    | exact wpAny_bind fin
theorem atI_of {xs : List V} {ds : List D} {P : Hp} {i : Int} {d : D} (h : Dns g P xs ds) (e : ((seqIx i ds.length).bind fun k => ds[k]?) = some d) : ∃ v, atI xs i = some v ∧ Dn g P v d := by
  unfold seqIx at e
  unfold atI
  rw [h.length]
  cases q : ixN ds.length i with
  | none => rw [q] at e; cases e
  | some j =>
    rw [q] at e
    obtain ⟨v, e1, e2⟩ := h.get (by simpa using e)
    exact ⟨v, by simpa using e1, e2⟩
theorem r_item (hK : X.K = g.K) (hu : X.A.units + 1 < cLine) : IxR X (rP2 g .item) := by
  intro value slice pins s σ H x y v u Q I rx ry h hs
  obtain ⟨P, a, b, d, sub, q1, q2, hf, k⟩ := rP2_inv rfl h
  unfold itemD at hf
  split at hf
  · obtain ⟨t, xs, rfl, hx, n⟩ := q1.sub_t sub
    obtain ⟨z, e1, e2⟩ := atI_of n hf
    rw [q2.int] at ry
    exact ix_tup value slice pins s σ H _ _ v u Q I rx ry ⟨_, _, _, _, rfl, rfl, by rw [hK]; exact hx, e1, give sub k (by cases d <;> rfl) e2⟩ hs
  · obtain ⟨t, xs, rfl, hx, n⟩ := q1.sub_l sub
    obtain ⟨z, e1, e2⟩ := atI_of n hf
    rw [q2.int] at ry
    exact ix_list value slice pins s σ H _ _ v u Q I rx ry ⟨_, _, _, _, rfl, rfl, by rw [hK]; exact hx, e1, give sub k (by cases d <;> rfl) e2⟩ hs
  · rename_i ks vs
    split at hf
    · rename_i hks
      obtain ⟨kk, rfl⟩ := keyS_kD hks
      obtain ⟨t, kvs, rfl, hx, rfl, _, n⟩ := q1.sub_d sub
      have hy := (q2.dn (by cases kk <;> rfl)).key
      have hv := valV_at kk kvs n
      rw [hf] at hv
      obtain ⟨z, e1, e2⟩ := hv
      refine ix_dict hu value slice pins s σ H _ _ v u Q I rx ry ⟨t, z, rfl, ?_, give sub k (by cases d <;> rfl) e2⟩ hs
      rw [hy, ← e1]
      exact DGet.k hx
    · cases hf
  · cases hf
def rS (g : Gx) : V → Option Int → Option Int → Hp → VK → Prop := fun x lo hi H Q => ∃ P a d, Sub P H ∧ Db g P H x a ∧ sliceD a (lo.elim .non .int) (hi.elim .non .int) = some d ∧
  ∀ v H' P' fp, Grow H P H' P' → On g P' H' v (freshP .slice d) d fp → fp.Nodup → (∀ a ∈ fp, H a = none ∧ P' a = none) → Q v H'
theorem optI_elim (o : Option Int) : optI (o.elim .non .int) = some o := by cases o <;> rfl
theorem cutV_whole {xs : List V} {lo hi : Option Int} (h : HT.sIx xs.length 0 lo = 0 ∧ HT.sIx xs.length xs.length hi = xs.length) : cutV xs lo hi = xs := by
  unfold cutV
  rw [h.1, h.2]; simp
theorem r_slice (hK : X.K = g.K) : SlR X (rS g) := by
  intro pins s σ H x v vl vu lo hi sl Q I rx hs pl pu h
  obtain ⟨P, a, d, sub, q1, hf, k⟩ := h
  unfold sliceD at hf
  split at hf
  · rw [optI_elim, optI_elim] at hf
    cases hf
    obtain ⟨t, xs, rfl, hx, n⟩ := q1.sub_t sub
    refine sl_tupA pins s σ H _ v vl vu lo hi sl Q I rx hs pl pu ⟨t, xs, rfl, by rw [hK]; exact hx, fun hw => ?_, fun _ => giveT sub k (n.cut lo hi)⟩
    have e := n.cut lo hi
    rw [cutV_whole hw] at e
    rcases q1 with q1 | ⟨_, q1⟩
    · cases q1 with
      | tup hx' n' =>
        refine give sub k rfl (.tup hx' ?_)
        have hl : HT.sIx xs.length 0 lo = 0 ∧ HT.sIx xs.length xs.length hi = xs.length := hw
        unfold PV.cut
        rw [← n.length, hl.1, hl.2]
        simp only [Nat.sub_zero, List.drop_zero]
        rw [n.length, List.take_length]
        exact n'
    · cases q1
  · rw [optI_elim, optI_elim] at hf
    cases hf
    obtain ⟨t, xs, rfl, hx, n⟩ := q1.sub_l sub
    exact sl_list pins s σ H _ v vl vu lo hi sl Q I rx hs pl pu ⟨t, xs, rfl, by rw [hK]; exact hx, giveL sub k rfl (n.cut lo hi)⟩
  · cases hf
end
end PV
end

section
set_option Elab.async false
set_option linter.all false
set_option maxRecDepth 100000
set_option maxHeartbeats 1000000
/-! PV6: built-in calls by values. -/
namespace PV
open PySem L2

section
variable {g : Gx} {H : Hp}
theorem rPL1_inv {p : PV.P} {f : D → Option D} {xs : List V} {Q : VK} (e : p.run = run1 f) (h : rPL g p xs H Q) : ∃ P x a d, xs = [x] ∧ Sub P H ∧ Db g P H x a ∧ f a = some d ∧
    ∀ v H' P' fp, Grow H P H' P' → On g P' H' v (freshP p d) d fp → fp.Nodup → (∀ a ∈ fp, H a = none ∧ P' a = none) → Q v H' := by
  obtain ⟨P, ds, d, sub, db, hr, k⟩ := h
  rw [e] at hr
  obtain ⟨a, rfl, hf⟩ := run1_some hr
  obtain ⟨_, e, h1⟩ := db.one
  exact ⟨P, _, a, d, e, sub, h1, hf, k⟩
theorem rPL2_inv {p : PV.P} {f : D → D → Option D} {xs : List V} {Q : VK} (e : p.run = run2 f) (h : rPL g p xs H Q) : ∃ P x y a b d, xs = [x, y] ∧ Sub P H ∧ Db g P H x a ∧ Db g P H y b ∧ f a b = some d ∧
    ∀ v H' P' fp, Grow H P H' P' → On g P' H' v (freshP p d) d fp → fp.Nodup → (∀ a ∈ fp, H a = none ∧ P' a = none) → Q v H' := by
  obtain ⟨P, ds, d, sub, db, hr, k⟩ := h
  rw [e] at hr
  obtain ⟨a, b, rfl, hf⟩ := run2_some hr
  obtain ⟨_, _, e, h1, h2⟩ := db.two
  exact ⟨P, _, _, a, b, d, e, sub, h1, h2, hf, k⟩
/-- a new dict -/
theorem giveK {P : Hp} {Q : VK} {p : PV.P} {ks ds : List D} {kvs : List (Key × V)} (s : Sub P H) (k : ∀ v H' P' fp, Grow H P H' P' → On g P' H' v (freshP p (.dct ks ds)) (.dct ks ds) fp → fp.Nodup → (∀ a ∈ fp, H a = none ∧ P' a = none) → Q v H') (hp : p.fresh = true)
    (hk : ks = kvs.map fun p => kD p.1) (hn : (kvs.map (·.1)).Nodup) (h : Dns g P (kvs.map (·.2)) ds) : ∀ q, H q = none → Q (.ref q) (upd H q (.dK kvs)) := fun q hq =>
  k (.ref q) _ P [q] (Grow.own s hq _) (by show On g P _ _ (if p.fresh then .own .frz else .frz) _ _; rw [hp]; exact .dct upd_same hk hn (.of_frz h)) (by simp) fun a ha => by
    have e : a = q := by simpa using ha
    subst e
    refine ⟨hq, ?_⟩
    cases z : P a with
    | none => rfl
    | some o => rw [s a o z] at hq; cases hq
theorem maxI_eq : ∀ (r : List Int) (a : Int), maxI a r ∈ a :: r ∧ ∀ y ∈ a :: r, y ≤ maxI a r
  | [], a => by simp [maxI]
  | b :: r, a => by
    simp only [maxI]
    by_cases hb : b > a
    · rw [if_pos hb]
      obtain ⟨h1, h2⟩ := maxI_eq r b
      refine ⟨List.mem_cons_of_mem _ h1, fun y hy => ?_⟩
      rcases List.mem_cons.mp hy with rfl | hy
      · have := h2 b List.mem_cons_self; omega
      · exact h2 y hy
    · rw [if_neg hb]
      obtain ⟨h1, h2⟩ := maxI_eq r a
      refine ⟨by rcases List.mem_cons.mp h1 with e | e <;> simp [e], fun y hy => ?_⟩
      rcases List.mem_cons.mp hy with rfl | hy
      · exact h2 y List.mem_cons_self
      · rcases List.mem_cons.mp hy with rfl | hy
        · have := h2 a List.mem_cons_self; omega
        · exact h2 y (List.mem_cons_of_mem _ hy)
theorem minI_eq : ∀ (r : List Int) (a : Int), minI a r ∈ a :: r ∧ ∀ y ∈ a :: r, minI a r ≤ y
  | [], a => by simp [minI]
  | b :: r, a => by
    simp only [minI]
    by_cases hb : b < a
    · rw [if_pos hb]
      obtain ⟨h1, h2⟩ := minI_eq r b
      refine ⟨List.mem_cons_of_mem _ h1, fun y hy => ?_⟩
      rcases List.mem_cons.mp hy with rfl | hy
      · have := h2 b List.mem_cons_self; omega
      · exact h2 y hy
    · rw [if_neg hb]
      obtain ⟨h1, h2⟩ := minI_eq r a
      refine ⟨by rcases List.mem_cons.mp h1 with e | e <;> simp [e], fun y hy => ?_⟩
      rcases List.mem_cons.mp hy with rfl | hy
      · exact h2 y List.mem_cons_self
      · rcases List.mem_cons.mp hy with rfl | hy
        · have := h2 a List.mem_cons_self; omega
        · exact h2 y (List.mem_cons_of_mem _ hy)
theorem insI_perm (a : Int) : ∀ l : List Int, (insI a l).Perm (a :: l)
  | [] => .refl _
  | b :: r => by
    unfold insI
    split
    · exact .refl _
    · exact ((insI_perm a r).cons b).trans (.swap a b r)
theorem sortI_perm : ∀ l : List Int, (sortI l).Perm l
  | [] => .refl _
  | a :: r => (insI_perm a _).trans ((sortI_perm r).cons a)
theorem insI_up (a : Int) : ∀ l : List Int, l.Pairwise (· ≤ ·) → (insI a l).Pairwise (· ≤ ·)
  | [], _ => by simp [insI]
  | b :: r, h => by
    unfold insI
    obtain ⟨h1, h2⟩ := List.pairwise_cons.mp h
    split
    · rename_i hab
      refine List.pairwise_cons.mpr ⟨fun y hy => ?_, h⟩
      rcases List.mem_cons.mp hy with rfl | hy
      · exact hab
      · exact Int.le_trans hab (h1 y hy)
    · rename_i hab
      refine List.pairwise_cons.mpr ⟨fun y hy => ?_, insI_up a r h2⟩
      rcases List.mem_cons.mp ((insI_perm a r).mem_iff.mp hy) with rfl | hy
      · omega
      · exact h1 y hy
theorem sortI_up : ∀ l : List Int, (sortI l).Pairwise (· ≤ ·)
  | [] => .nil
  | a :: r => insI_up a _ (sortI_up r)
theorem sorted_eq {ns' ns : List Int} (p : ns'.Perm ns) (h : ns'.Pairwise (· ≤ ·)) : ns' = sortI ns :=
  List.Perm.eq_of_pairwise (fun _ _ _ _ h1 h2 => Int.le_antisymm h1 h2) h (sortI_up ns) (p.trans (sortI_perm ns).symm)
/-- putting into a dict, key by key -/
theorem keyAt_none {P : Hp} (k : Key) : ∀ (kvs : List (Key × V)), keyAt (kvs.map fun p => kD p.1) (kD k) = none ↔ (kvs.any fun kv => decide (kv.1 = k)) = false
  | [] => by simp [keyAt]
  | (k', v') :: r => by
    simp only [List.map_cons, keyAt, same_kD, List.any_cons]
    by_cases e : k' = k
    · simp [e]
    · simp only [e, decide_false, Bool.false_eq_true, if_false, Option.map_eq_none_iff, Bool.false_or]
      exact keyAt_none (P := P) k r
theorem put_at {P : Hp} (k : Key) (v : V) (d : D) (hd : Dn g P v d) : ∀ (kvs : List (Key × V)) (ds : List D), Dns g P (kvs.map (·.2)) ds → (kvs.map (·.1)).Nodup →
    ((PV.putK (kvs.map fun p => kD p.1) ds (kD k) d).1 = (L2.putK kvs k v).map fun p => kD p.1) ∧ Dns g P ((L2.putK kvs k v).map (·.2)) (PV.putK (kvs.map fun p => kD p.1) ds (kD k) d).2 := by
  intro kvs ds h nd
  unfold L2.putK
  by_cases e : (kvs.any fun kv => decide (kv.1 = k)) = true
  · rw [if_pos e]
    have hs : keyAt (kvs.map fun p => kD p.1) (kD k) ≠ none := fun z => by
      rw [(keyAt_none (P := P) k kvs).mp z] at e; cases e
    unfold PV.putK
    cases q : keyAt (kvs.map fun p => kD p.1) (kD k) with
    | none => exact absurd q hs
    | some i =>
      simp only
      constructor
      · simp only [List.map_map]
        apply List.map_congr_left
        intro p _
        simp only [Function.comp]
        split
        · rename_i e2; rw [e2]
        · rfl
      · clear e hs
        induction kvs generalizing ds i with
        | nil => simp [keyAt] at q
        | cons p r ih =>
          obtain ⟨k', v'⟩ := p
          simp only [List.map_cons, List.nodup_cons] at nd
          cases h with
          | @cons _ _ d' ds' h t =>
            simp only [List.map_cons, keyAt, same_kD] at q ⊢
            by_cases e : k' = k
            · simp only [e, decide_true, if_true, Option.some.injEq] at q
              subst q
              simp only [e, if_true, List.set_cons_zero]
              refine .cons hd ?_
              have : (r.map fun kv => if kv.1 = k then (kv.1, v) else kv) = r := by
                conv => rhs; rw [← List.map_id r]
                apply List.map_congr_left
                intro x hx
                have : x.1 ≠ k := fun z => nd.1 (by rw [e, ← z]; exact List.mem_map_of_mem hx)
                simp [this]
              rw [this]; exact t
            · simp only [e, decide_false, Bool.false_eq_true, if_false, Option.map_eq_some_iff] at q
              obtain ⟨j, q, rfl⟩ := q
              simp only [e, if_false, List.set_cons_succ]
              exact .cons h (ih ds' t nd.2 j q)
  · rw [if_neg e]
    have hs : keyAt (kvs.map fun p => kD p.1) (kD k) = none := (keyAt_none (P := P) k kvs).mpr (by cases q : (kvs.any fun kv => decide (kv.1 = k)) with | true => exact absurd q e | false => rfl)
    unfold PV.putK
    rw [hs]
    simp only [List.map_append, List.map_cons, List.map_nil]
    exact ⟨trivial, h.append (.cons hd .nil)⟩
end

section
variable {X : Cx} {g : Gx}
theorem callR_of {f : Value} {r r' : List V → Hp → VK → Prop} (h : CallR X f r) (k : ∀ xs H Q, r' xs H Q → r xs H Q) : CallR X f r' := fun pins s σ H xs us Q I rs q => h pins s σ H xs us Q I rs (k xs H Q q)
theorem r_len (hK : X.K = g.K) : CallR X (.builtin "len") (rPL g .len) := by
  intro pins s σ H xs us Q I r h
  obtain ⟨P, x, a, d, rfl, sub, h1, hf, k⟩ := rPL1_inv rfl h
  unfold lenD at hf
  split at hf
  · cases hf
    obtain ⟨t, ys, rfl, hx, n⟩ := h1.sub_t sub
    exact call_len_seq pins s σ H _ us Q I r ⟨t, ys, rfl, .inr (by rw [hK]; exact hx), by rw [n.length]; exact give sub k rfl (.int _)⟩
  · cases hf
    obtain ⟨t, ys, rfl, hx, n⟩ := h1.sub_l sub
    exact call_len_seq pins s σ H _ us Q I r ⟨t, ys, rfl, .inl (by rw [hK]; exact hx), by rw [n.length]; exact give sub k rfl (.int _)⟩
  · split at hf
    · rename_i hl
      cases hf
      have e := h1.str
      subst e
      exact call_len_str pins s σ H _ us Q I r ⟨_, rfl, by rw [lim_eq] at hl; exact hl, give sub k rfl (.int _)⟩
    · cases hf
  · cases hf
    obtain ⟨t, kvs, rfl, hx, rfl, nn, n⟩ := h1.sub_d sub
    obtain ⟨u, rfl, ru⟩ := vals1 r
    cases ru
    exact d_len I (.inl hx) fun t' s' I' => ⟨.int _, H, I', ⟨t', rfl⟩, by simpa using give sub k rfl (.int _)⟩
  · cases hf
theorem r_abs : CallR X (.builtin "abs") (rPL g .abs) := by
  refine callR_of call_abs fun xs H Q h => ?_
  obtain ⟨P, x, a, d, rfl, sub, h1, hf, k⟩ := rPL1_inv rfl h
  unfold absD at hf
  split at hf
  · cases hf
    exact ⟨_, by rw [h1.int], give sub k rfl (.int _)⟩
  · cases hf
theorem r_int1 : CallR X (.type "int") (rPL g .int1) := by
  refine callR_of call_int1 fun xs H Q h => ?_
  obtain ⟨P, x, a, d, rfl, sub, h1, hf, k⟩ := rPL1_inv rfl h
  unfold int1D at hf
  split at hf
  · cases hf
    exact .inl ⟨_, by rw [h1.int], give sub k rfl (.int _)⟩
  · cases hf
    exact .inr ⟨_, by rw [h1.bl], give sub k rfl (.int _)⟩
  · cases hf
theorem r_max2 (hc : X.calm = true) : CallR X (.builtin "max") (rPL g .max2) := by
  refine callR_of (call_max2 hc) fun xs H Q h => ?_
  obtain ⟨P, x, y, a, b, d, rfl, sub, h1, h2, hf, k⟩ := rPL2_inv rfl h
  unfold max2D at hf
  split at hf
  · cases hf
    exact ⟨_, _, by rw [h1.int, h2.int], give sub k rfl (.int _)⟩
  · cases hf
theorem r_min2 (hc : X.calm = true) : CallR X (.builtin "min") (rPL g .min2) := by
  refine callR_of (call_min2 hc) fun xs H Q h => ?_
  obtain ⟨P, x, y, a, b, d, rfl, sub, h1, h2, hf, k⟩ := rPL2_inv rfl h
  unfold min2D at hf
  split at hf
  · cases hf
    exact ⟨_, _, by rw [h1.int, h2.int], give sub k rfl (.int _)⟩
  · cases hf
theorem r_max1 (hK : X.K = g.K) (hc : X.calm = true) : CallR X (.builtin "max") (rPL g .max1) := by
  refine callR_of (cr_max hc) fun xs H Q h => ?_
  obtain ⟨P, x, a, d, rfl, sub, h1, hf, k⟩ := rPL1_inv rfl h
  unfold maxD at hf
  split at hf
  · rename_i i r
    cases e : intsD r with
    | none => rw [e] at hf; cases hf
    | some ns =>
      rw [e] at hf
      cases hf
      obtain ⟨t, ys, rfl, hx, n⟩ := h1.sub_l sub
      have e2 := intsD_map e
      subst e2
      have e3 : ys = (i :: ns).map V.int := Dns.ints (ns := i :: ns) (by simpa using n)
      subst e3
      refine ⟨t, i :: ns, rfl, by rw [hK]; exact hx, by simp, fun m hm hle => ?_⟩
      obtain ⟨m1, m2⟩ := maxI_eq ns i
      have e4 : m = maxI i ns := Int.le_antisymm (m2 m hm) (hle _ m1)
      subst e4
      exact give sub k rfl (.int _)
  · cases hf
theorem r_min1 (hK : X.K = g.K) (hc : X.calm = true) : CallR X (.builtin "min") (rPL g .min1) := by
  refine callR_of (cr_min hc) fun xs H Q h => ?_
  obtain ⟨P, x, a, d, rfl, sub, h1, hf, k⟩ := rPL1_inv rfl h
  unfold minD at hf
  split at hf
  · rename_i i r
    cases e : intsD r with
    | none => rw [e] at hf; cases hf
    | some ns =>
      rw [e] at hf
      cases hf
      obtain ⟨t, ys, rfl, hx, n⟩ := h1.sub_l sub
      have e2 := intsD_map e
      subst e2
      have e3 : ys = (i :: ns).map V.int := Dns.ints (ns := i :: ns) (by simpa using n)
      subst e3
      refine ⟨t, i :: ns, rfl, by rw [hK]; exact hx, by simp, fun m hm hle => ?_⟩
      obtain ⟨m1, m2⟩ := minI_eq ns i
      have e4 : m = minI i ns := Int.le_antisymm (hle _ m1) (m2 m hm)
      subst e4
      exact give sub k rfl (.int _)
  · cases hf
theorem r_all (hK : X.K = g.K) (hc : X.calm = true) : CallR X (.builtin "all") (rPL g .all) := by
  refine callR_of (cr_all hc) fun xs H Q h => ?_
  obtain ⟨P, x, a, d, rfl, sub, h1, hf, k⟩ := rPL1_inv rfl h
  unfold allD at hf
  split at hf
  · rename_i r
    cases e : boolsD r with
    | none => rw [e] at hf; cases hf
    | some ns =>
      rw [e] at hf
      cases hf
      obtain ⟨t, ys, rfl, hx, n⟩ := h1.sub_l sub
      have e2 := boolsD_map e
      subst e2
      have e3 := n.bools
      subst e3
      exact ⟨t, ns, rfl, by rw [hK]; exact hx, give sub k rfl (.bl _)⟩
  · cases hf
theorem r_any (hK : X.K = g.K) (hc : X.calm = true) : CallR X (.builtin "any") (rPL g .any) := by
  refine callR_of (cr_any hc) fun xs H Q h => ?_
  obtain ⟨P, x, a, d, rfl, sub, h1, hf, k⟩ := rPL1_inv rfl h
  unfold anyD at hf
  split at hf
  · rename_i r
    cases e : boolsD r with
    | none => rw [e] at hf; cases hf
    | some ns =>
      rw [e] at hf
      cases hf
      obtain ⟨t, ys, rfl, hx, n⟩ := h1.sub_l sub
      have e2 := boolsD_map e
      subst e2
      have e3 := n.bools
      subst e3
      exact ⟨t, ns, rfl, by rw [hK]; exact hx, give sub k rfl (.bl _)⟩
  · cases hf
theorem r_sum (hK : X.K = g.K) (hc : X.calm = true) : CallR X (.builtin "sum") (rPL g .sum) := by
  refine callR_of (cr_sum hc) fun xs H Q h => ?_
  obtain ⟨P, x, a, d, rfl, sub, h1, hf, k⟩ := rPL1_inv rfl h
  unfold sumD at hf
  split at hf
  · rename_i r
    cases e : intsD r with
    | none => rw [e] at hf; cases hf
    | some ns =>
      rw [e] at hf
      cases hf
      obtain ⟨t, ys, rfl, hx, n⟩ := h1.sub_l sub
      have e2 := intsD_map e
      subst e2
      have e3 := n.ints
      subst e3
      exact ⟨t, ns, rfl, by rw [hK]; exact hx, give sub k rfl (.int _)⟩
  · cases hf
theorem r_tuple (hK : X.K = g.K) : CallR X (.type "tuple") (rPL g .tuple) := by
  refine callR_of call_tuple_of fun xs H Q h => ?_
  obtain ⟨P, x, a, d, rfl, sub, h1, hf, k⟩ := rPL1_inv rfl h
  unfold tupleD at hf
  split at hf
  · cases hf
    obtain ⟨t, ys, rfl, hx, n⟩ := h1.sub_l sub
    exact ⟨t, ys, rfl, .inl ⟨by rw [hK]; exact hx, giveT sub k n⟩⟩
  · cases hf
    have hb := h1
    obtain ⟨t, ys, rfl, hx, n⟩ := h1.sub_t sub
    refine ⟨t, ys, rfl, .inr ⟨by rw [hK]; exact hx, ?_⟩⟩
    rcases hb with hb | ⟨_, hb⟩
    · exact give sub k rfl hb
    · cases hb
  · cases hf
theorem r_list (hK : X.K = g.K) (hc : X.calm = true) : CallR X (.type "list") (rPL g .list) := by
  refine callR_of (CallR.or call_list_of (call_list_dK hc)) fun xs H Q h => ?_
  obtain ⟨P, x, a, d, rfl, sub, h1, hf, k⟩ := rPL1_inv rfl h
  unfold listD at hf
  split at hf
  · cases hf
    obtain ⟨t, ys, rfl, hx, n⟩ := h1.sub_l sub
    exact .inl ⟨t, ys, rfl, .inl (by rw [hK]; exact hx), giveL sub k rfl n⟩
  · cases hf
    obtain ⟨t, ys, rfl, hx, n⟩ := h1.sub_t sub
    exact .inl ⟨t, ys, rfl, .inr (by rw [hK]; exact hx), giveL sub k rfl n⟩
  · cases hf
    obtain ⟨t, kvs, rfl, hx, rfl, nn, n⟩ := h1.sub_d sub
    refine .inr ⟨t, kvs, rfl, hx, giveL sub k rfl ?_⟩
    clear hx n nn h1 k h
    induction kvs with
    | nil => exact .nil
    | cons p r ih =>
      refine .cons ?_ ih
      obtain ⟨kk, v⟩ := p
      cases kk
      · exact .int _
      · exact .str _
  · cases hf
theorem r_sorted (hK : X.K = g.K) : CallR X (.builtin "sorted") (rPL g .sorted) := by
  refine callR_of cr_sortedI fun xs H Q h => ?_
  obtain ⟨P, x, a, d, rfl, sub, h1, hf, k⟩ := rPL1_inv rfl h
  unfold sortedD at hf
  split at hf
  · rename_i r
    cases e : intsD r with
    | none => rw [e] at hf; cases hf
    | some ns =>
      rw [e] at hf
      cases hf
      obtain ⟨t, ys, rfl, hx, n⟩ := h1.sub_l sub
      have e2 := intsD_map e
      subst e2
      have e3 := n.ints
      subst e3
      refine ⟨t, ns, rfl, by rw [hK]; exact hx, fun ns' p pm up hp => ?_⟩
      rw [sorted_eq pm up]
      exact giveL sub k rfl (.of_ints _) p hp
  · cases hf
theorem r_divmod : CallR X (.builtin "divmod") (rPL g .divmod) := by
  refine callR_of call_divmod fun xs H Q h => ?_
  obtain ⟨P, x, y, a, b, d, rfl, sub, h1, h2, hf, k⟩ := rPL2_inv rfl h
  unfold divmodD at hf
  split at hf
  · split at hf
    · rename_i hm
      cases hf
      simp only [Bool.and_eq_true, decide_eq_true_eq] at hm
      exact ⟨_, _, by rw [h1.int, h2.int], hm, giveT sub k (.cons (.int _) (.cons (.int _) .nil))⟩
    · cases hf
  · cases hf
end
end PV
end

section
set_option Elab.async false
set_option linter.all false
set_option maxRecDepth 100000
set_option maxHeartbeats 1000000
/-! PV7: expressions by their codes. -/
namespace PV
open PySem L2

section
variable {g : Gx} {W : WX} {cf mk : CF} {σ : L2.St} {H P : Hp} {φ : Nat → List Addr} {env : Env}
/-- what slot i holds is told for good from now on -/
theorem Rel.frzAt (r : Rel g env σ H P φ) (i : Nat) : ∃ P' φ', Rel g (frzAt env i) σ H P' φ' ∧ Step H P φ H P' φ' ∧ ∀ d, getV env i = some d → ∃ v, σ[i]? = some (some v) ∧ Dn g P' v d := by
  cases e : env[i]? with
  | none => exact ⟨P, φ, by unfold PV.frzAt; rw [e]; exact r, Step.refl, fun d hd => by unfold getV at hd; rw [e] at hd; cases hd⟩
  | some x =>
    cases x with
    | none => exact ⟨P, φ, by unfold PV.frzAt; rw [e]; exact r, Step.refl, fun d hd => by unfold getV at hd; rw [e] at hd; cases hd⟩
    | some wd =>
      obtain ⟨w, d⟩ := wd
      have hg : ∀ d', getV env i = some d' → d' = d := fun d' hd => by unfold getV at hd; rw [e] at hd; cases hd; rfl
      by_cases hw : w.isFrz = true
      · cases w with
        | frz =>
          refine ⟨P, φ, by unfold PV.frzAt; rw [e]; exact r, Step.refl, fun d' hd => ?_⟩
          rw [hg d' hd]
          obtain ⟨v, e1, o⟩ := r.on i _ _ e
          exact ⟨v, e1, o.frz'.1⟩
        | _ => cases hw
      · have ef : PV.frzAt env i = env.set i (some (.frz, d)) := by
          unfold PV.frzAt
          rw [e]
          cases w with
          | frz => exact absurd rfl hw
          | _ => rfl
        obtain ⟨v, e1, o⟩ := r.on i _ _ e
        have hsub := cool_sub (fp := φ i) r.sub
        have dn : Dn g (coolP P H (φ i)) v d := o.cool hsub fun a ha u hu => by rw [coolP_in ha]; exact hu
        refine ⟨coolP P H (φ i), fun j => if j = i then [] else φ j, ?_, ?_, fun d' hd => ⟨v, e1, by rw [hg d' hd]; exact dn⟩⟩
        · rw [ef]
          refine ⟨by rw [List.length_set]; exact r.len, fun j w' d' h => ?_, fun j => ?_, fun j k a hj hk => ?_, fun j a hj => ?_, fun j a hj => ?_, cool_le r.sub⟩
          · by_cases ej : j = i
            · subst ej
              have hlt : j < env.length := by
                rcases Nat.lt_or_ge j env.length with h1 | h1
                · exact h1
                · rw [List.getElem?_eq_none h1] at e; cases e
              rw [List.getElem?_set_self hlt] at h
              cases h
              exact ⟨v, e1, by rw [if_pos rfl]; exact .frz dn⟩
            · rw [List.getElem?_set_ne (Ne.symm ej)] at h
              obtain ⟨v', e', o'⟩ := r.on j _ _ h
              exact ⟨v', e', by rw [if_neg ej]; exact o'.frame hsub fun _ _ _ h => h⟩
          · by_cases ej : j = i
            · rw [if_pos ej]; exact List.nodup_nil
            · rw [if_neg ej]; exact r.nd j
          · by_cases ej : j = i
            · rw [if_pos ej] at hj; simp at hj
            · by_cases ek : k = i
              · rw [if_pos ek] at hk; simp at hk
              · rw [if_neg ej] at hj; rw [if_neg ek] at hk; exact r.dj j k a hj hk
          · by_cases ej : j = i
            · rw [if_pos ej] at hj; simp at hj
            · rw [if_neg ej] at hj
              rw [coolP_out fun z => ej (r.dj j i a hj z)]
              exact r.ap j a hj
          · by_cases ej : j = i
            · rw [if_pos ej] at hj; simp at hj
            · rw [if_neg ej] at hj; exact r.tr j a hj
        · refine ⟨fun _ _ h _ => h, fun _ h => h, hsub, fun j a hj => ?_, fun a ha => ?_⟩
          · by_cases ej : j = i
            · rw [if_pos ej] at hj; simp at hj
            · rw [if_neg ej] at hj; exact .inl ⟨j, hj⟩
          · by_cases em : a ∈ φ i
            · exact .inr (.inl ⟨i, em⟩)
            · rw [coolP_out em] at ha; exact .inl ha
theorem e_var {X : Cx} {e : Expr} {i : Nat} (h : PE X e (tVar i)) : PE X e (tE g W cf mk (.var i)) := by
  refine h.imp fun σ H Q ⟨env, P, φ, rel, p⟩ => ?_
  simp only [evE] at p
  obtain ⟨P', φ', rel', st, k⟩ := rel.frzAt i
  cases e1 : getV env i with
  | none => rw [e1] at p; exact p.elim
  | some d =>
    rw [e1] at p
    obtain ⟨v, ev, dn⟩ := k d e1
    exact ⟨v, ev, p v H P' φ' rel' st (ρW_of_dn dn rfl)⟩
theorem e_lit {X : Cx} {e : Expr} {v : V} {d : D} (h : PE X e (tC v)) (hd : ∀ P, Dn g P v d) : PE X e (tE g W cf mk (.lit d)) := by
  refine h.imp fun σ H Q ⟨env, P, φ, rel, p⟩ => ?_
  simp only [evE] at p
  exact p v H P φ rel Step.refl (ρW_of_dn (hd P) rfl)
end

/-! ### operations by their syntax -/
section
variable {X : Cx} {g : Gx} {W : WX} {cf mk : CF} {a b c e : Expr} {es : List Expr} {ca cb cc : C} {pos p2 : Pos}
/-- an argument's own rule: a name that is read in place -/
theorem a_brw {i : Nat} (h : PE X e (tVar i)) : PE X e (tArg g W cf mk (.brw i [])) := h
def C.isBrw : C → Bool
  | .brw _ [] => true
  | _ => false
theorem a_of (h : PE X e (tE g W cf mk ca)) (hb : ca.isBrw = false) : PE X e (tArg g W cf mk ca) := by
  have ea : tArg g W cf mk ca = tE g W cf mk ca := by
    unfold tArg
    split
    · cases hb
    · rfl
  rw [ea]; exact h
theorem e_bin {op : Operator} {p : PV.P} (ho : OpR X (binaryOp op) (rP2 g p)) (ha : PE X a (tArg g W cf mk ca)) (hb : PE X b (tArg g W cf mk cb)) : PE X (.BinOp a op b pos) (tE g W cf mk (.prim p (.cons ca (.cons cb .nil)))) :=
  (pe_op ho ha hb).imp fun _ _ _ h => tArgs_prim h
theorem e_un {op : UnaryOp} {p : PV.P} (ho : UnR X (unaryOp op) (rP1 g p)) (ha : PE X a (tArg g W cf mk ca)) : PE X (.UnaryOp op a pos) (tE g W cf mk (.prim p (.cons ca .nil))) :=
  (pe_un ho ha).imp fun _ _ _ h => tArgs_prim h
theorem e_cmp {op : CmpOp} {p : PV.P} (ho : OpR X (compareOp op) (rP2 g p)) (ha : PE X a (tArg g W cf mk ca)) (hb : PE X b (tArg g W cf mk cb)) (hm : behindInMarks op b = false) : PE X (.Compare a [op] [b] pos) (tE g W cf mk (.prim p (.cons ca (.cons cb .nil)))) :=
  (pe_cmpR ho ha hb hm).imp fun _ _ _ h => tArgs_prim h
theorem e_item (ho : IxR X (rP2 g .item)) (ha : PE X a (tArg g W cf mk ca)) (hb : PE X b (tArg g W cf mk cb)) (hs : PlainIx b) : PE X (.Subscript a b pos) (tE g W cf mk (.prim .item (.cons ca (.cons cb .nil)))) :=
  (pe_ix ho ha hb hs).imp fun _ _ _ h => tArgs_prim h
/-- the right one None -/
def rNon (r : V → Hp → VK → Prop) : R2 := fun x y H Q => match y with
  | .non => r x H Q
  | _ => False
theorem Db.isNon {P H : Hp} {v : V} {d : D} (h : Db g P H v d) : decide (v = V.non) = d.isNon := by
  rcases h with h | ⟨_, h⟩ <;> (cases h <;> simp [D.isNon])
theorem r_isN : OpR X (compareOp .Is) (rNon (rP1 g .isN)) := by
  intro pins s σ H x y v u Q I rx ry h
  cases y with
  | non =>
    obtain ⟨P, a, d, sub, h1, hf, k⟩ := rP1_inv rfl (show rP1 g .isN x H Q from h)
    cases hf
    exact op_isN pins s σ H x .non v u Q I rx ry ⟨rfl, by rw [h1.isNon]; exact give sub k rfl (.bl _)⟩
  | _ => exact (show False from h).elim
theorem r_notN : OpR X (compareOp .IsNot) (rNon (rP1 g .notN)) := by
  intro pins s σ H x y v u Q I rx ry h
  cases y with
  | non =>
    obtain ⟨P, a, d, sub, h1, hf, k⟩ := rP1_inv rfl (show rP1 g .notN x H Q from h)
    cases hf
    exact op_notN pins s σ H x .non v u Q I rx ry ⟨rfl, by rw [h1.isNon]; exact give sub k rfl (.bl _)⟩
  | _ => exact (show False from h).elim
theorem e_isN (ha : PE X a (tArg g W cf mk ca)) (hb : PE X b (tC .non)) (hm : behindInMarks .Is b = false) : PE X (.Compare a [.Is] [b] pos) (tE g W cf mk (.prim .isN (.cons ca .nil))) :=
  (pe_cmpR r_isN ha hb hm).imp fun _ _ _ h => tArgs_prim h
theorem e_notN (ha : PE X a (tArg g W cf mk ca)) (hb : PE X b (tC .non)) (hm : behindInMarks .IsNot b = false) : PE X (.Compare a [.IsNot] [b] pos) (tE g W cf mk (.prim .notN (.cons ca .nil))) :=
  (pe_cmpR r_notN ha hb hm).imp fun _ _ _ h => tArgs_prim h

/-! ### arguments of calls of built-ins -/
theorem pa_args_nil : PA X [] (tArgs g W cf mk .nil) := pa_nil
def isStar : Expr → Bool
  | .Starred _ _ => true
  | _ => false
theorem star_of (env : PySem.Env) (h : isStar e = false) : starEach (e :: es) env = (false, eval e env) :: starEach es env := by
  cases e <;> first | rfl | cases h
theorem pa_args_cons (ha : PE X e (tArg g W cf mk ca)) (hr : PA X es (tArgs g W cf mk cb)) (h : isStar e = false) : PA X (e :: es) (tArgs g W cf mk (.cons ca cb)) :=
  pa_cons ha hr (star_of _ h)
/-- none of them is starred -/
def noStars : List Expr → Bool
  | [] => true
  | e :: es => !isStar e && noStars es
theorem any_stars (env : PySem.Env) : ∀ (es : List Expr), noStars es = true → ((backTo pos (starEach es env)).any fun x => x.1) = false
  | [], _ => rfl
  | e :: es, h => by
    simp only [noStars, Bool.and_eq_true, Bool.not_eq_true'] at h
    rw [star_of _ h.1]
    have ih := any_stars env es h.2
    first
      | (simp only [backTo, List.map_cons, List.any_cons, Bool.false_or] at ih ⊢; exact ih)
      | (unfold backTo at ih ⊢; simpa using ih)
theorem e_callB {x : Str} {id : String} {p : Pos} {pr : PV.P} (hc : CallR X (.builtin id) (rPL g pr)) (hg : Gl X x) (hm : X.mg x = none) (hv : bootBuiltins x = some (.builtin id)) (hn : x ≠ "__name__") (hd : (x == ("__debug__" : Str)) = false)
    (ha : PA X (e :: es) (tArgs g W cf mk ca)) (hs : noStars (e :: es) = true) : PE X (.Call (.Name x p) (e :: es) [] pos) (tE g W cf mk (.prim pr ca)) := by
  simp only [noStars, Bool.and_eq_true, Bool.not_eq_true'] at hs
  exact (pe_callB hc hg hm hv ha hn hd (star_of _ hs.1) (any_stars _ es hs.2)).imp fun _ _ _ h => tArgs_prim h
theorem e_callTy {x : Str} {id : String} {p : Pos} {pr : PV.P} (hc : CallR X (.type id) (rPL g pr)) (hg : Gl X x) (hm : X.mg x = none) (hv : bootBuiltins x = some (.type id)) (hn : x ≠ "__name__") (hd : (x == ("__debug__" : Str)) = false)
    (ha : PA X (e :: es) (tArgs g W cf mk ca)) (hs : noStars (e :: es) = true) : PE X (.Call (.Name x p) (e :: es) [] pos) (tE g W cf mk (.prim pr ca)) := by
  simp only [noStars, Bool.and_eq_true, Bool.not_eq_true'] at hs
  exact (pe_callTy hc hg hm hv ha hn hd (star_of _ hs.1) (any_stars _ es hs.2)).imp fun _ _ _ h => tArgs_prim h

/-! ### tests, and, or, not, if -/
theorem t_val (h : PE X e (tE g W cf mk ca)) (hw : ∀ (whole : Sem Value), PySem.isTrue e X.env whole = do
      let v ← whole
      standAt e.pos
      holding [v] (truthy v)) : PT X e (tT g W cf mk ca) := pt_val h hw
end
section
variable {X : Cx} {g : Gx} {W : WX} {cf mk : CF} {a b c e : Expr} {es : List Expr} {ca cb cc : C} {pos p2 : Pos} {σ : L2.St} {H : Hp}
theorem ρD_bl {P : Hp} {φ : Nat → List Addr} {H0 : Hp} {k : Bool} : ρW g (fun _ => .frz) (.bl k) (.bl k) H0 P H φ := ρW_of_dn (.bl k) rfl
/-- a bool out of a code's answer -/
theorem bl_of {w : D → PV.W} {P : Hp} {φ : Nat → List Addr} {H0 : Hp} {v : V} {k : Bool} (h : ρW g w (.bl k) v H0 P H φ) : v = .bl k := by
  obtain ⟨fp, o, _⟩ := h
  cases e : w (.bl k) with
  | frz => rw [e] at o; have := o.frz'.1; cases this; rfl
  | own w' => rw [e] at o; cases o
  | obj c ws => rw [e] at o; cases o
theorem and_imp {Q : VK} (h : tE g W cf mk (.and ca cb) σ H Q) : tAndV (tE g W cf mk ca) (tE g W cf mk cb) σ H Q := by
  obtain ⟨env, P, φ, rel, p⟩ := h
  simp only [evE] at p
  refine ⟨env, P, φ, rel, Post.bind back_W p ?_⟩
  intro d env' v H' P' φ' _ rel' st hd k
  simp only at k
  split at k
  · rw [bl_of hd]
    refine ⟨true, rfl, ?_⟩
    rw [if_pos rfl]
    refine ⟨env', P', φ', rel', Post.bind back_W k ?_⟩
    intro d2 env2 v2 H2 P2 φ2 _ rel2 st2 hd2 k2
    simp only at k2
    split at k2
    · rw [bl_of hd2]
      exact k2.ok rel2 ρD_bl
    · exact k2.elim
  · rw [bl_of hd]
    refine ⟨false, rfl, ?_⟩
    rw [if_neg Bool.false_ne_true]
    exact k.ok rel' ρD_bl
  · exact k.elim
theorem or_imp {Q : VK} (h : tE g W cf mk (.or ca cb) σ H Q) : tOrV (tE g W cf mk ca) (tE g W cf mk cb) σ H Q := by
  obtain ⟨env, P, φ, rel, p⟩ := h
  simp only [evE] at p
  refine ⟨env, P, φ, rel, Post.bind back_W p ?_⟩
  intro d env' v H' P' φ' _ rel' st hd k
  simp only at k
  split at k
  · rw [bl_of hd]
    refine ⟨true, rfl, ?_⟩
    rw [if_pos rfl]
    exact k.ok rel' ρD_bl
  · rw [bl_of hd]
    refine ⟨false, rfl, ?_⟩
    rw [if_neg Bool.false_ne_true]
    refine ⟨env', P', φ', rel', Post.bind back_W k ?_⟩
    intro d2 env2 v2 H2 P2 φ2 _ rel2 st2 hd2 k2
    simp only at k2
    split at k2
    · rw [bl_of hd2]
      exact k2.ok rel2 ρD_bl
    · exact k2.elim
  · exact k.elim
theorem e_and {rest : List Expr} (ha : PE X a (tE g W cf mk ca)) (hb : PE X (.BoolOp .And (b :: rest) pos) (tE g W cf mk cb)) : PE X (.BoolOp .And (a :: b :: rest) pos) (tE g W cf mk (.and ca cb)) := (pe_and ha hb).imp fun _ _ _ h => and_imp h
theorem e_or {rest : List Expr} (ha : PE X a (tE g W cf mk ca)) (hb : PE X (.BoolOp .Or (b :: rest) pos) (tE g W cf mk cb)) : PE X (.BoolOp .Or (a :: b :: rest) pos) (tE g W cf mk (.or ca cb)) := (pe_or ha hb).imp fun _ _ _ h => or_imp h
theorem e_one {op : BoolOp} (ha : PE X a (tE g W cf mk ca)) : PE X (.BoolOp op [a] pos) (tE g W cf mk ca) := pe_one ha
/-- not, as a code: an operation whose argument is no name in place -/
theorem tE_not {Q : VK} (hb : ca.isBrw = false) (h : tE g W cf mk (.prim .not (.cons ca .nil)) σ H Q) : tE g W cf mk ca σ H fun v H' => ∃ k, v = .bl k ∧ Q (.bl (!k)) H' := by
  have q := tArgs_prim h
  have ea : tArg g W cf mk ca = tE g W cf mk ca := by
    unfold tArg
    split
    · cases hb
    · rfl
  have q2 : tE g W cf mk ca σ H fun x H' => rPL g .not [x] H' Q := by
    have q3 : tArg g W cf mk ca σ H fun x H' => rPL g .not [x] H' Q := q
    rw [ea] at q3; exact q3
  obtain ⟨env, P, φ, rel, p⟩ := q2
  refine ⟨env, P, φ, rel, ?_⟩
  cases e : evE cf mk ca env with
  | ok r =>
    rw [e] at p
    intro v H' P' φ' rel' st hd
    obtain ⟨P2, x, a, d, ex, sub, h1, hf, k⟩ := rPL1_inv rfl (p v H' P' φ' rel' st hd)
    cases ex
    unfold notD at hf
    split at hf
    · cases hf
      exact ⟨_, h1.bl, give sub k rfl (.bl _)⟩
    · cases hf
  | exc x e' => rw [e] at p; exact p
  | stuck => rw [e] at p; exact p
theorem e_not (ha : PE X a (tE g W cf mk ca)) (hb : ca.isBrw = false) : PE X (.UnaryOp .Not a pos) (tE g W cf mk (.prim .not (.cons ca .nil))) := (pe_not ha).imp fun _ _ _ h => tE_not hb h
theorem t_not (ha : PT X a (tT g W cf mk ca)) (hb : ca.isBrw = false) : PT X (.UnaryOp .Not a pos) (tT g W cf mk (.prim .not (.cons ca .nil))) := by
  refine (pt_not ha).imp fun σ H Q h => ?_
  have q := tE_not hb h
  obtain ⟨env, P, φ, rel, p⟩ := q
  refine ⟨env, P, φ, rel, ?_⟩
  cases e : evE cf mk ca env with
  | ok r =>
    rw [e] at p
    intro v H' P' φ' rel' st hd
    obtain ⟨k, rfl, k', e2, q⟩ := p v H' P' φ' rel' st hd
    cases e2
    exact ⟨k, rfl, q⟩
  | exc x e' => rw [e] at p; exact p
  | stuck => rw [e] at p; exact p
end
end PV
end

section
set_option Elab.async false
set_option linter.all false
set_option maxRecDepth 100000
set_option maxHeartbeats 1000000
/-! PV8: tests, conditional values, chains, displays, slices, isinstance. -/
namespace PV
open PySem L2

section
variable {X : Cx} {g : Gx} {W : WX} {cf mk : CF} {a b c e : Expr} {es : List Expr} {ca cb cc : C} {pos p2 : Pos} {σ : L2.St} {H : Hp}
theorem tT_of {Q : Bool → Hp → Prop} {env : Env} {P : Hp} {φ : Nat → List Addr} (rel : Rel g env σ H P φ) (p : Post g W σ H P φ (ρW g (freshW ca)) (evE cf mk ca env) (fun v H' => ∃ k, v = .bl k ∧ Q k H')) : tT g W cf mk ca σ H Q := ⟨env, P, φ, rel, p⟩
theorem t_and {rest : List Expr} (ha : PT X a (tT g W cf mk ca)) (hb : PW X (.BoolOp .And (b :: rest) pos) (tT g W cf mk cb)) : PW X (.BoolOp .And (a :: b :: rest) pos) (tT g W cf mk (.and ca cb)) := by
  refine ⟨fun wh pins s σ H Q I h => (pw_and ha hb).run wh pins s σ H Q I ?_⟩
  obtain ⟨env, P, φ, rel, p⟩ := h
  simp only [evE] at p
  refine ⟨env, P, φ, rel, Post.bind back_W p ?_⟩
  intro d env' v H' P' φ' _ rel' st hd k
  simp only at k
  split at k
  · refine ⟨true, bl_of hd, ?_⟩
    show ite (true = true) _ _
    rw [if_pos rfl]
    refine tT_of rel' (Post.bind back_W k ?_)
    intro d2 env2 v2 H2 P2 φ2 _ rel2 st2 hd2 k2
    simp only at k2
    split at k2
    · rw [bl_of hd2]
      exact k2.ok rel2 ρD_bl
    · exact k2.elim
  · refine ⟨false, bl_of hd, ?_⟩
    show ite (false = true) _ _
    rw [if_neg Bool.false_ne_true]
    obtain ⟨k', e, q⟩ := k.ok (b := .bl false) rel' ρD_bl
    cases e
    exact q
  · exact k.elim
theorem t_or {rest : List Expr} (ha : PT X a (tT g W cf mk ca)) (hb : PW X (.BoolOp .Or (b :: rest) pos) (tT g W cf mk cb)) : PW X (.BoolOp .Or (a :: b :: rest) pos) (tT g W cf mk (.or ca cb)) := by
  refine ⟨fun wh pins s σ H Q I h => (pw_or ha hb).run wh pins s σ H Q I ?_⟩
  obtain ⟨env, P, φ, rel, p⟩ := h
  simp only [evE] at p
  refine ⟨env, P, φ, rel, Post.bind back_W p ?_⟩
  intro d env' v H' P' φ' _ rel' st hd k
  simp only at k
  split at k
  · refine ⟨true, bl_of hd, ?_⟩
    show ite (true = true) _ _
    rw [if_pos rfl]
    obtain ⟨k', e, q⟩ := k.ok (b := .bl true) rel' ρD_bl
    cases e
    exact q
  · refine ⟨false, bl_of hd, ?_⟩
    show ite (false = true) _ _
    rw [if_neg Bool.false_ne_true]
    refine tT_of rel' (Post.bind back_W k ?_)
    intro d2 env2 v2 H2 P2 φ2 _ rel2 st2 hd2 k2
    simp only at k2
    split at k2
    · rw [bl_of hd2]
      exact k2.ok rel2 ρD_bl
    · exact k2.elim
  · exact k.elim
theorem t_one {op : BoolOp} (ha : PT X a (tT g W cf mk ca)) : PW X (.BoolOp op [a] pos) (tT g W cf mk ca) := by
  cases op
  · exact pw_and1 ha
  · exact pw_or1 ha
theorem e_ite (hc : PT X c (tT g W cf mk cc)) (ha : PE X a (tE g W cf mk ca)) (hb : PE X b (tE g W cf mk cb)) : PE X (.IfExp c a b pos) (tE g W cf mk (.ite cc ca cb)) := by
  refine (pe_ifExp hc ha hb).imp fun σ H Q ⟨env, P, φ, rel, p⟩ => ?_
  simp only [evE] at p
  refine tT_of rel (Post.bind back_W p ?_)
  intro d env' v H' P' φ' _ rel' st hd k
  simp only at k
  have low : ∀ c, Post g W σ H' P' φ' (ρW g (freshW (.ite cc ca cb))) (evE cf mk c env') Q → tE g W cf mk c σ H' Q := fun c h => by
    refine tE_of_tD ⟨env', P', φ', rel', ?_⟩
    cases e : evE cf mk c env' with
    | ok r =>
      rw [e] at h
      exact fun b H2 P2 φ2 r2 s2 q => h b H2 P2 φ2 r2 s2 (ρW_of_dn q rfl)
    | exc x e' => rw [e] at h; exact h
    | stuck => rw [e] at h; exact h
  split at k
  · refine ⟨true, bl_of hd, ?_⟩
    show ite (true = true) _ _
    rw [if_pos rfl]
    exact low ca k
  · refine ⟨false, bl_of hd, ?_⟩
    show ite (false = true) _ _
    rw [if_neg Bool.false_ne_true]
    exact low cb k
  · exact k.elim
/-- a < b <= c -/
theorem e_chain {op op' : CmpOp} {p q : PV.P} (ho : OpR X (compareOp op) (rP2 g p)) (ho' : OpR X (compareOp op') (rP2 g q)) (hp : ∀ k, freshP p (.bl k) = .frz) (hq : ∀ k, freshP q (.bl k) = .frz)
    (ha : PE X a (tE g W cf mk ca)) (hb : PE X b (tE g W cf mk cb)) (hc : PE X c (tE g W cf mk cc)) (hl : lastMarks [op, op'] [b, c] = false) : PE X (.Compare a [op, op'] [b, c] pos) (tE g W cf mk (.chain p q ca cb cc)) := by
  refine (pe_chain ho ho' ha hb hc hl).imp fun σ H Q ⟨env, P, φ, rel, z⟩ => ?_
  simp only [evE] at z
  refine tE_of_tD ⟨env, P, φ, rel, Post.bind back_W z ?_⟩
  intro d1 env1 v1 H1 P1 φ1 _ rel1 st1 dn1 k1
  refine tE_of_tD ⟨env1, P1, φ1, rel1, Post.bind back_W k1 ?_⟩
  intro d2 env2 v2 H2 P2 φ2 _ rel2 st2 dn2 k2
  have dn1' := Dn.mono st2.pm dn1
  simp only at k2
  split at k2
  · rename_i er
    refine ⟨P2, [d1, d2], _, rel2.sub, .cons (.inl dn1') (.cons (.inl dn2) .nil), er, fun v H' P' fp gr on nd ap => ?_⟩
    rw [hp] at on
    have on' := on.frz'.1
    cases on'
    refine ⟨true, rfl, ?_⟩
    show ite (true = true) _ _
    rw [if_pos rfl]
    have rel3 := rel2.grow gr
    refine tE_of_tD ⟨env2, P', φ2, rel3, Post.bind back_W (Post.rebase back_W k2 gr.step) ?_⟩
    intro d3 env3 v3 H3 P3 φ3 _ rel4 st3 dn3 k3
    simp only at k3
    split at k3
    · rename_i eq
      refine ⟨P3, [d2, d3], _, rel4.sub, .cons (.inl (Dn.mono (gr.pm.trans st3.pm) dn2)) (.cons (.inl dn3) .nil), eq, fun v H' P' fp gr on nd ap => ?_⟩
      rw [hq] at on
      have on' := on.frz'.1
      cases on'
      exact k3 _ _ _ _ (rel4.grow gr) gr.step ρD_bl
    · exact k3.elim
  · rename_i er
    refine ⟨P2, [d1, d2], _, rel2.sub, .cons (.inl dn1') (.cons (.inl dn2) .nil), er, fun v H' P' fp gr on nd ap => ?_⟩
    rw [hp] at on
    have on' := on.frz'.1
    cases on'
    refine ⟨false, rfl, ?_⟩
    show ite (false = true) _ _
    rw [if_neg Bool.false_ne_true]
    exact k2 _ _ _ _ (rel2.grow gr) gr.step ρD_bl
  · exact k2.elim

/-! ### displays -/
def tVs (g : Gx) (W : WX) (cf mk : CF) : C → TA
  | .cons a as => tCons (tE g W cf mk a) (tVs g W cf mk as)
  | _ => tNil
theorem tVs_of (as : C) : ∀ {σ : L2.St} {H : Hp} {Q : List V → Hp → Prop}, tV g W cf mk as σ H Q → tVs g W cf mk as σ H Q := by
  induction as with
  | nil =>
    rintro σ H Q ⟨env, P, φ, rel, p⟩
    exact p [] H P φ rel Step.refl .nil
  | cons a as _ ih =>
    rintro σ H Q ⟨env, P, φ, rel, p⟩
    simp only [evV] at p
    refine tE_of_tD ⟨env, P, φ, rel, Post.bind (ρ1 := ρD g) back_L p ?_⟩
    intro d env' v H' P' φ' _ rel' st hd k
    refine ih ⟨env', P', φ', rel', Post.bind (ρ1 := ρL g) back_L k ?_⟩
    intro ds env2 vs H2 P2 φ2 _ rel2 st2 hds k2
    exact k2.ok (b := v :: vs) rel2 (.cons (Dn.mono st2.pm hd) hds)
  | _ =>
    rintro σ H Q ⟨env, P, φ, rel, p⟩
    simp only [tV, evV] at p
    exact p.elim
theorem pa_vs_nil : PA X [] (tVs g W cf mk .nil) := pa_nil
theorem pa_vs_cons (ha : PE X e (tE g W cf mk ca)) (hr : PA X es (tVs g W cf mk cb)) (h : isStar e = false) : PA X (e :: es) (tVs g W cf mk (.cons ca cb)) := pa_cons ha hr (star_of _ h)
theorem e_tup {x1 : Nat} (h : PA X es (tVs g W cf mk ca)) : PE X (.Tuple es x1 pos) (tE g W cf mk (.tup ca)) := by
  refine (pe_tup h).imp fun σ H Q ⟨env, P, φ, rel, p⟩ => ?_
  simp only [evE] at p
  refine tVs_of ca ⟨env, P, φ, rel, Post.bind back_W p ?_⟩
  intro ds env' vs H' P' φ' _ rel' st hds k
  simp only at k
  split at k
  · rename_i hl
    refine ⟨by rw [Dns.length hds, ← lim_eq]; exact hl, fun q hq => ?_⟩
    have gr := Grow.new rel'.sub hq (.tup vs)
    exact k _ _ _ _ (rel'.grow gr) gr.step (ρW_of_dn (.tup (.inl (.inl upd_same)) (Dns.mono gr.pm hds)) rfl)
  · exact k.elim
theorem own_new {P : Hp} {φ : Nat → List Addr} {env : Env} (rel : Rel g env σ H P φ) {q : Addr} (hq : H q = none) : P q = none ∧ ∀ i, q ∉ φ i := by
  refine ⟨?_, fun i hi => rel.tr i q hi hq⟩
  cases z : P q with
  | none => rfl
  | some o => rw [rel.sub q o z] at hq; cases hq
theorem e_lst (h : PA X es (tVs g W cf mk ca)) : PE X (.List es pos) (tE g W cf mk (.lst ca)) := by
  refine (pe_lst h).imp fun σ H Q ⟨env, P, φ, rel, p⟩ => ?_
  simp only [evE] at p
  refine tVs_of ca ⟨env, P, φ, rel, Post.bind back_W p ?_⟩
  intro ds env' vs H' P' φ' _ rel' st hds k
  simp only at k
  split at k
  · rename_i hl
    refine ⟨by rw [Dns.length hds, ← lim_eq]; exact hl, fun q hq => ?_⟩
    have gr := Grow.own rel'.sub hq (.lst vs)
    refine k _ _ _ _ (rel'.grow gr) gr.step ⟨[q], .lst upd_same (.of_frz hds), by simp, fun a ha => ?_⟩
    have ea : a = q := by simpa using ha
    subst ea
    exact ⟨hq, own_new rel' hq⟩
  · exact k.elim
/-! ### slices -/
/-- a slice's end: none, or a code that tells an int -/
def tO (g : Gx) (W : WX) (cf mk : CF) (c : C) : TO := if c.isNil then tNoPart else tPart (tE g W cf mk c)
theorem po_nil : PO X none (tO g W cf mk .nil) := po_none
theorem po_code (h : PE X e (tE g W cf mk ca)) (hb : ca.isNil = false) : PO X (some e) (tO g W cf mk ca) := by
  unfold tO
  rw [hb]
  exact po_some h
/-- an end is told, then the rest -/
theorem tO_of {α β : Type} {ρ2 : α → β → Hp → Hp → Hp → (Nat → List Addr) → Prop} {f : Option Int × Env → R Env (α × Env)} {Q : β → Hp → Prop} {Q1 : Option Int → Hp → Prop} {env : Env} {P : Hp} {φ : Nat → List Addr} (hb : Back ρ2) (rel : Rel g env σ H P φ)
    (p : Post g W σ H P φ ρ2 ((if ca.isNil then R.ok (none, env) else (evE cf mk ca env).bind toI).bind f) Q)
    (k : ∀ o env' H' P' φ', Rel g env' σ H' P' φ' → Step H P φ H' P' φ' → Post g W σ H' P' φ' ρ2 (f (o, env')) Q → Q1 o H') : tO g W cf mk ca σ H Q1 := by
  unfold tO
  by_cases hn : ca.isNil = true
  · rw [if_pos hn] at p ⊢
    exact k none env H P φ rel Step.refl p
  · rw [if_neg hn] at p ⊢
    have p2 : Post g W σ H P φ ρ2 ((evE cf mk ca env).bind fun r => (toI r).bind f) Q := by
      cases e : evE cf mk ca env with
      | ok r => rw [e] at p; exact p
      | exc x e' => rw [e] at p; exact p
      | stuck => rw [e] at p; exact p
    refine tE_of_tD ⟨env, P, φ, rel, Post.bind hb p2 ?_⟩
    intro d env' v H' P' φ' _ rel' st hd q
    unfold toI at q
    simp only at q
    split at q
    · cases hd
      exact ⟨_, rfl, k _ env' H' P' φ' rel' st q⟩
    · exact q.elim
theorem slice_end {P : Hp} {φ : Nat → List Addr} {env : Env} {Q : VK} {d x : D} {v : V} {lo hi : Option Int} (rel : Rel g env σ H P φ) (h : Db g P H v d) (e : sliceD d (ofI lo) (ofI hi) = some x) (w : D → PV.W) (hw : w x = freshP .slice x)
    (k : Post g W σ H P φ (ρW g w) (.ok (x, env)) Q) : rS g v lo hi H Q := by
  refine ⟨P, d, x, rel.sub, h, e, fun v' H' P' fp gr on nd ap => ?_⟩
  refine k v' H' P' φ (rel.grow gr) gr.step ⟨fp, by rw [hw]; exact on, nd, fun a ha => ⟨(ap a ha).1, (ap a ha).2, fun i hi => rel.tr i a hi (ap a ha).1⟩⟩
theorem e_slice {lo hi : Option Expr} {cl ch : C} (hr : SlR X (rS g)) (ha : PE X a (tArg g W cf mk ca)) (hl : PO X lo (tO g W cf mk cl)) (hh : PO X hi (tO g W cf mk ch)) : PE X (.Subscript a (.Slice lo hi none p2) pos) (tE g W cf mk (.sl ca cl ch)) := by
  refine (pe_slice hr ha hl hh).imp fun σ H Q ⟨env, P, φ, rel, p⟩ => ?_
  show tArg g W cf mk ca σ H fun x H1 => tO g W cf mk cl σ H1 fun l H2 => tO g W cf mk ch σ H2 fun u H3 => rS g x l u H3 Q
  by_cases hb : ∃ i, ca = .brw i []
  · obtain ⟨i, rfl⟩ := hb
    simp only [evE] at p
    by_cases hs : (getV env i).isSome = true
    · rw [if_pos hs] at p
      unfold getV at hs
      split at hs
      · rename_i w d e
        obtain ⟨v, ev, _⟩ := rel.on i w d e
        refine ⟨v, ev, tO_of back_W rel p ?_⟩
        intro l env1 H1 P1 φ1 rel1 st1 k1
        refine tO_of back_W rel1 k1 ?_
        intro u env2 H2 P2 φ2 rel2 st2 k2
        simp only at k2
        unfold readB at k2
        split at k2
        · rename_i d' hd
          split at hd
          · rename_i w2 d2 e2
            obtain ⟨v2, ev2, o2⟩ := rel2.on i w2 d2 e2
            rw [ev] at ev2
            cases ev2
            simp only [PV.W.at, D.at] at hd
            split at hd
            · rename_i fl
              cases hd
              have db : Db g P2 H2 v d' := by
                cases w2 with
                | frz => exact .inl o2.frz'.1
                | own w => cases w with
                  | frz => exact .inr ⟨_, o2⟩
                  | _ => exact absurd fl (by simp [PV.W.flat])
                | obj => exact absurd fl (by simp [PV.W.flat])
              split at k2
              · rename_i x ex
                exact slice_end rel2 db ex _ rfl k2
              · exact k2.elim
            · cases hd
          · cases hd
        · exact k2.elim
      · simp at hs
    · rw [if_neg hs] at p
      exact p.elim
  · have ea : tArg g W cf mk ca = tE g W cf mk ca := by
      unfold tArg
      split
      · exact absurd ⟨_, rfl⟩ hb
      · rfl
    rw [ea]
    have ev : evE cf mk (.sl ca cl ch) env = (evE cf mk ca env).bind fun r0 =>
      (if cl.isNil then R.ok (none, r0.2) else (evE cf mk cl r0.2).bind toI).bind fun r1 => (if ch.isNil then R.ok (none, r1.2) else (evE cf mk ch r1.2).bind toI).bind fun r2 => match sliceD r0.1 (ofI r1.1) (ofI r2.1) with
        | some x => .ok (x, r2.2)
        | none => .stuck := by
      cases ca with
      | brw i fs => cases fs with
        | nil => exact absurd ⟨i, rfl⟩ hb
        | cons => simp only [evE] <;> rfl
      | _ => simp only [evE] <;> rfl
    rw [ev] at p
    refine tE_of_tD ⟨env, P, φ, rel, Post.bind back_W p ?_⟩
    intro d env0 v H0 P0 φ0 _ rel0 st0 hd k0
    refine tO_of back_W rel0 k0 ?_
    intro l env1 H1 P1 φ1 rel1 st1 k1
    refine tO_of back_W rel1 k1 ?_
    intro u env2 H2 P2 φ2 rel2 st2 k2
    simp only at k2
    split at k2
    · rename_i x ex
      exact slice_end rel2 (.inl (Dn.mono (st1.pm.trans st2.pm) hd)) ex _ rfl k2
    · exact k2.elim
end
end PV
end

section
set_option Elab.async false
set_option linter.all false
set_option maxRecDepth 100000
set_option maxHeartbeats 1000000
/-! PV9: dicts made, copied, asked; isinstance. -/
namespace PV
open PySem L2

section
variable {g : Gx} {P H : Hp}
theorem nodup_put (k : Key) (v : V) {kvs : List (Key × V)} (nd : (kvs.map (·.1)).Nodup) : ((L2.putK kvs k v).map (·.1)).Nodup := by
  unfold L2.putK
  by_cases e : (kvs.any fun kv => decide (kv.1 = k)) = true
  · rw [if_pos e, List.map_map]
    have : (kvs.map ((·.1) ∘ fun kv => if kv.1 = k then (kv.1, v) else kv)) = kvs.map (·.1) := by
      apply List.map_congr_left
      intro p _
      simp only [Function.comp]
      split <;> rfl
    rw [this]; exact nd
  · rw [if_neg e, List.map_append]
    refine List.nodup_append.mpr ⟨nd, by simp, ?_⟩
    intro a ha b hb
    simp only [List.map_cons, List.map_nil, List.mem_singleton] at hb
    subst hb
    rintro rfl
    obtain ⟨p, hp, e2⟩ := List.mem_map.mp ha
    exact e (List.any_eq_true.mpr ⟨p, hp, decide_eq_true e2⟩)
theorem putAll_merge : ∀ (more : List (Key × V)) (vs : List D), Dns g P (more.map (·.2)) vs → ∀ (kvs : List (Key × V)) (ds : List D), Dns g P (kvs.map (·.2)) ds → (kvs.map (·.1)).Nodup →
    (putAll (kvs.map fun p => kD p.1) ds (more.map fun p => kD p.1) vs).1 = (mergeK kvs more).map (fun p => kD p.1) ∧ Dns g P ((mergeK kvs more).map (·.2)) (putAll (kvs.map fun p => kD p.1) ds (more.map fun p => kD p.1) vs).2 ∧ ((mergeK kvs more).map (·.1)).Nodup
  | [], _, .nil, kvs, ds, h, nd => ⟨by simp only [List.map_nil, putAll]; rfl, by simp only [List.map_nil, putAll]; exact h, nd⟩
  | (k, v) :: r, _, .cons (d := d) hd hr, kvs, ds, h, nd => by
    obtain ⟨e1, e2⟩ := put_at k v d hd kvs ds h nd
    simp only [List.map_cons, putAll]
    rw [e1]
    exact putAll_merge r _ hr (L2.putK kvs k v) _ e2 (nodup_put k v nd)
theorem pairsD_of : ∀ {xs : List V} {ds : List D} {ks vs : List D}, Dns g P xs ds → pairs ds = some (ks, vs) → ks.all D.keyS = true →
    ∃ (ps : List Addr) (kvs : List (Key × V)), xs = ps.map V.ref ∧ Paired (fun p kv => SqT g.K P p [kV kv.1, kv.2]) ps kvs ∧ ks = kvs.map (fun p => kD p.1) ∧ Dns g P (kvs.map (·.2)) vs
  | _, [], _, _, .nil, e, _ => by
    cases e
    exact ⟨[], [], rfl, .nil, rfl, .nil⟩
  | _, d :: ds, ks, vs, .cons h r, e, ka => by
    unfold pairs at e
    split at e
    · rename_i heq; cases heq
    · rename_i k v rest heq
      cases heq
      obtain ⟨⟨k2, v2⟩, e2, e3⟩ := Option.map_eq_some_iff.mp e
      cases e3
      simp only [List.all_cons, Bool.and_eq_true] at ka
      obtain ⟨ps, kvs, x1, x2, x3, x4⟩ := pairsD_of r e2 ka.2
      cases h with
      | @tup a _ _ hs n =>
        cases n with
        | cons n1 n => cases n with
          | @cons v' _ _ _ n2 n =>
            cases n
            obtain ⟨kk, rfl⟩ := keyS_kD ka.1
            have ek := n1.key
            subst ek
            exact ⟨a :: ps, (kk, v') :: kvs, by rw [x1]; rfl, .cons hs x2, by rw [x3]; rfl, .cons n2 x4⟩
    · cases e
theorem evens_of : ∀ {xs : List V} {ds : List D} {ks vs : List D}, Dns g P xs ds → evens ds = some (ks, vs) → ks.all D.keyS = true →
    ∃ (kvs : List (Key × V)), xs = (kvs.flatMap fun kv => [kV kv.1, kv.2]) ∧ ks = kvs.map (fun p => kD p.1) ∧ Dns g P (kvs.map (·.2)) vs
  | _, [], _, _, .nil, e, _ => by
    cases e
    exact ⟨[], rfl, rfl, .nil⟩
  | _, [_], _, _, _, e, _ => by cases e
  | _, k :: v :: ds, ks, vs, .cons h1 (.cons (v := v') h2 r), e, ka => by
    unfold evens at e
    obtain ⟨⟨k2, v2⟩, e2, e3⟩ := Option.map_eq_some_iff.mp e
    cases e3
    simp only [List.all_cons, Bool.and_eq_true] at ka
    obtain ⟨kvs, x1, x3, x4⟩ := evens_of r e2 ka.2
    obtain ⟨kk, rfl⟩ := keyS_kD ka.1
    have ek := h1.key
    subst ek
    exact ⟨(kk, v') :: kvs, by rw [x1]; rfl, by rw [x3]; rfl, .cons h2 x4⟩
end

section
variable {X : Cx} {g : Gx}
theorem r_dictP (hK : X.K = g.K) (hc : X.calm = true) : CallR X (.type "dict") (rPL g .dictP) := by
  refine callR_of (call_dictP hc) fun xs H Q h => ?_
  obtain ⟨P, x, a, d, rfl, sub, h1, hf, k⟩ := rPL1_inv rfl h
  unfold dictPD at hf
  split at hf
  · rename_i ds
    cases e : pairs ds with
    | none => rw [e] at hf; cases hf
    | some p =>
      obtain ⟨ks, vs⟩ := p
      rw [e] at hf
      simp only [Option.bind_some] at hf
      split at hf
      · rename_i ka
        cases hf
        obtain ⟨t, ys, rfl, hx, n⟩ := h1.sub_l sub
        obtain ⟨ps, kvs, rfl, x2, rfl, x4⟩ := pairsD_of n e ka
        obtain ⟨y1, y2, y3⟩ := putAll_merge kvs vs x4 [] [] .nil List.nodup_nil
        refine ⟨t, ps, kvs, rfl, by rw [hK]; exact hx, Paired.mapP x2 (fun _ _ z => by rw [hK]; exact sqT_mono sub z), giveK sub k rfl y1 y3 y2⟩
      · cases hf
  · cases hf
theorem r_dictC : CallR X (.type "dict") (rPL g .dictC) := by
  intro pins s σ H xs us Q I r h
  obtain ⟨P, x, a, d, rfl, sub, h1, hf, k⟩ := rPL1_inv rfl h
  unfold dictCD at hf
  split at hf
  · cases hf
    obtain ⟨t, kvs, rfl, hx, rfl, nn, n⟩ := h1.sub_d sub
    obtain ⟨u, rfl, ru⟩ := vals1 r
    cases ru
    exact d_copyOf I (.inl hx) fun p s' hp I' => ⟨.ref p, _, I', rfl, giveK sub k rfl rfl nn n p hp⟩
  · cases hf
end

section
variable {X : Cx} {g : Gx} {W : WX} {cf mk : CF} {a b c e f : Expr} {es : List Expr} {ca cb cc : C} {pos p2 : Pos} {σ : L2.St} {H : Hp}
/-! ### readings are monotone -/
theorem Post.mono {α β : Type} {P : Hp} {φ : Nat → List Addr} {ρ : α → β → Hp → Hp → Hp → (Nat → List Addr) → Prop} {r : R Env (α × Env)} {Q Q' : β → Hp → Prop} (h : Post g W σ H P φ ρ r Q) (k : ∀ b H', Q b H' → Q' b H') : Post g W σ H P φ ρ r Q' := by
  cases r with
  | ok p => exact fun b H' P' φ' rel st q => k _ _ (h b H' P' φ' rel st q)
  | exc x e => exact h
  | stuck => exact h
theorem tE_mono {Q Q' : VK} (h : tE g W cf mk ca σ H Q) (k : ∀ v H', Q v H' → Q' v H') : tE g W cf mk ca σ H Q' := let ⟨env, P, φ, rel, p⟩ := h; ⟨env, P, φ, rel, p.mono k⟩
theorem tVs_mono : ∀ (as : C) {H : Hp} {Q Q' : List V → Hp → Prop}, tVs g W cf mk as σ H Q → (∀ vs H', Q vs H' → Q' vs H') → tVs g W cf mk as σ H Q' := by
  intro as
  induction as with
  | cons a r _ ih => exact fun {H Q Q'} h k => tE_mono (ca := a) h fun v H' q => ih q fun vs H2 q2 => k _ _ q2
  | _ => exact fun {H Q Q'} h k => k _ _ h
/-- as bind, from a state behind, what is asked told from the state ahead -/
theorem Post.bindAt {α β γ δ : Type} {P H1 P1 : Hp} {φ φ1 : Nat → List Addr} {ρ1 : α → β → Hp → Hp → Hp → (Nat → List Addr) → Prop} {ρ2 : γ → δ → Hp → Hp → Hp → (Nat → List Addr) → Prop} {r : R Env (α × Env)} {f : α × Env → R Env (γ × Env)} {Q : δ → Hp → Prop} {Q1 : β → Hp → Prop}
    (h : Post g W σ H P φ ρ2 (r.bind f) Q) (s : Step H P φ H1 P1 φ1)
    (k : ∀ a env' b H' P' φ', Rel g env' σ H' P' φ' → Step H P φ H' P' φ' → Step H1 P1 φ1 H' P' φ' → ρ1 a b H1 P' H' φ' → Post g W σ H P φ ρ2 (f (a, env')) Q → Q1 b H') : Post g W σ H1 P1 φ1 ρ1 r Q1 := by
  cases r with
  | ok p => exact fun b H' P' φ' rel st q => k p.1 p.2 b H' P' φ' rel (s.trans st) st q h
  | exc x e => exact fun cls dx H' P' φ' rel st q => h cls dx H' P' φ' rel (s.trans st) q
  | stuck => exact h
/-! ### a display -/
inductive IsPairs (g : Gx) (W : WX) (cf mk : CF) : C → List (TE × TE) → Prop
  | nil : IsPairs g W cf mk .nil []
  | cons {k v r : C} {trs : List (TE × TE)} : IsPairs g W cf mk r trs → IsPairs g W cf mk (.cons k (.cons v r)) ((tE g W cf mk k, tE g W cf mk v) :: trs)
theorem tPairs_of {as : C} {trs : List (TE × TE)} (hp : IsPairs g W cf mk as trs) : ∀ {H : Hp} {Q : List (V × V) → Hp → Prop}, (tVs g W cf mk as σ H fun xs H' => ∃ ps : List (V × V), xs = (ps.flatMap fun p => [p.1, p.2]) ∧ Q ps H') → tPairs trs σ H Q := by
  induction hp with
  | nil =>
    rintro H Q ⟨ps, e, q⟩
    cases ps with
    | nil => exact q
    | cons p r => cases e
  | @cons kc vc r trs _ ih =>
    intro H Q h
    have h' : tE g W cf mk kc σ H fun x H1 => tE g W cf mk vc σ H1 fun y H2 => tVs g W cf mk r σ H2 fun xs H3 => ∃ ps : List (V × V), x :: y :: xs = (ps.flatMap fun p => [p.1, p.2]) ∧ Q ps H3 := h
    refine tE_mono h' fun x H1 q1 => tE_mono q1 fun y H2 q2 => ih (tVs_mono r q2 fun xs H3 ⟨ps, e, q⟩ => ?_)
    cases ps with
    | nil => cases e
    | cons p ps =>
      simp only [List.flatMap_cons, List.cons_append, List.nil_append, List.cons.injEq] at e
      obtain ⟨rfl, rfl, e⟩ := e
      exact ⟨ps, e, q⟩
theorem e_dct {ks : List (Option Expr)} {vs : List Expr} {trs : List (TE × TE)} (hp : IsPairs g W cf mk ca trs) (h : PPs X pos ks vs trs) (hall : ks.all (·.isSome) = true) (hl : ks.length = vs.length) (h0 : ks ≠ []) (h15 : ks.length ≤ 15) :
    PE X (.Dict ks vs pos) (tE g W cf mk (.dct ca)) := by
  refine (pe_disp h hall hl h0 h15).imp fun σ H Q ⟨env, P, φ, rel, p⟩ => ?_
  simp only [evE] at p
  intro q hq
  have gr := Grow.own rel.sub hq (.dK [])
  have rel1 := rel.grow gr
  refine tPairs_of hp (tVs_of ca ⟨env, P, φ, rel1, Post.bindAt p gr.step ?_⟩)
  intro ds env' xs H' P' φ' rel' st st1 hds k
  simp only at k
  have hq' : H' q = some (.dK []) := st1.keep q _ upd_same (own_new rel hq).2
  split at k
  · rename_i pr e
    obtain ⟨ks, vs⟩ := pr
    split at k
    · rename_i ok
      simp only [Bool.and_eq_true, decide_eq_true_eq] at ok
      obtain ⟨kvs, x1, x2, x3⟩ := evens_of hds e ok.1
      have x2' : ks = kvs.map (fun p => kD p.1) := x2
      subst x2'
      obtain ⟨y1, y2, y3⟩ := putAll_merge kvs vs x3 [] [] .nil List.nodup_nil
      refine ⟨kvs.map fun kv => (kV kv.1, kv.2), by rw [x1, List.flatMap_map], hq', kvs, rfl, by simpa using ok.2, ?_⟩
      have apq : P' q = none ∧ ∀ i, q ∉ φ' i := by
        refine ⟨?_, fun i hi => ?_⟩
        · cases z : P' q with
          | none => rfl
          | some o =>
            have := st1.pn q (by rw [z]; simp)
            rcases this with y | ⟨j, y⟩ | y
            · exact absurd (own_new rel hq).1 y
            · exact absurd y ((own_new rel hq).2 j)
            · rw [upd_same] at y; cases y
        · rcases st1.fr i q hi with ⟨j, y⟩ | y
          · exact (own_new rel hq).2 j y
          · rw [upd_same] at y; cases y
      have ne : ∀ i a, a ∈ φ' i → a ≠ q := fun i a ha z => apq.2 i (by rw [← z]; exact ha)
      refine k (.ref q) (upd H' q (.dK (mergeK [] kvs))) P' φ' ⟨rel'.len, fun i w d h => ?_, rel'.nd, rel'.dj, rel'.ap, fun i a ha => ?_, fun a o h => ?_⟩ ⟨fun a o h n => ?_, fun a h => ?_, st.pm, st.fr, st.pn⟩ ⟨[q], .dct upd_same y1 y3 (.of_frz y2), by simp, fun a ha => ?_⟩
      · obtain ⟨v, e1, o⟩ := rel'.on i w d h
        exact ⟨v, e1, o.frame (Sub.refl _) fun a ha o ho => by rw [upd_ne (ne i a ha)]; exact ho⟩
      · rw [upd_ne (ne i a ha)]; exact rel'.tr i a ha
      · rw [upd_ne (fun z => by rw [z, apq.1] at h; cases h)]; exact rel'.sub a o h
      · rw [upd_ne (ne_of_none h hq)]; exact st.keep a o h n
      · by_cases z : a = q
        · subst z; rw [upd_same]; simp
        · rw [upd_ne z]; exact st.there a h
      · have ea : a = q := by simpa using ha
        subst ea
        exact ⟨hq, apq⟩
    · exact k.elim
  · exact k.elim
theorem e_dct0 : PE X (.Dict [] [] pos) (tE g W cf mk (.dct .nil)) := by
  refine pe_dnewK.imp fun σ H Q ⟨env, P, φ, rel, p⟩ => ?_
  intro q hq
  have gr := Grow.own rel.sub hq (.dK [])
  have k : Post g W σ H P φ (ρW g (freshW (.dct .nil))) (.ok (.dct [] [], env)) Q := by
    exact p
  refine k _ _ _ _ (rel.grow gr) gr.step ⟨[q], .dct (kvs := []) upd_same rfl List.nodup_nil .nil, by simp, fun a ha => ?_⟩
  have ea : a = q := by simpa using ha
  subst ea
  exact ⟨hq, own_new rel hq⟩

/-! ### isinstance -/
def Ty.name : Ty → String
  | .int => "int"
  | .bool => "bool"
  | .str => "str"
  | .list => "list"
  | .tuple => "tuple"
  | .dict => "dict"
def D.tyName : D → String
  | .non => "NoneType"
  | .bl _ => "bool"
  | .int _ => "int"
  | .str _ => "str"
  | .tup _ => "tuple"
  | .lst _ => "list"
  | .dct _ _ => "dict"
  | _ => ""
theorem kit_isa (t : Ty) (d : D) {r : Bool} (h : D.isa t d = some r) : kitB d.tyName t.name = some r := by
  cases t <;> cases d <;> simp only [D.isa, Option.some.injEq, reduceCtorEq] at h <;> subst h <;> simp only [D.tyName, Ty.name] <;> decide +kernel
theorem sqL_ty {K : PySem.W.Frag} {a : Addr} {xs : List V} (h : SqL K H a xs) : TyX K H (.ref a) (.type "list") := by
  rcases h with (h | ⟨o, h⟩) | ⟨o, _, _, h, c, _⟩
  · exact .base (.lst h)
  · exact .base (.frz h)
  · exact .kList h c
theorem sqT_ty {K : PySem.W.Frag} {a : Addr} {xs : List V} (h : SqT K H a xs) : TyX K H (.ref a) (.type "tuple") := by
  rcases h with (h | ⟨o, h⟩) | ⟨o, _, _, h, c, _⟩
  · exact .base (.tup h)
  · exact .fTuple h
  · exact .kTuple h c
theorem Db.ty {P : Hp} {v : V} {d : D} {t : Ty} {r : Bool} (h : Db g P H v d) (s : Sub P H) (hi : D.isa t d = some r) : TyX g.K H v (.type d.tyName) := by
  cases d with
  | non => rw [h.non]; exact .base .non
  | bl b => rw [h.bl]; exact .base (.bl b)
  | int i => rw [h.int]; exact .base (.int i)
  | str x => rw [h.str]; exact .base (.str x)
  | tup ds =>
    obtain ⟨a, xs, rfl, q, _⟩ := h.sub_t s
    exact sqT_ty q
  | lst ds =>
    obtain ⟨a, xs, rfl, q, _⟩ := h.sub_l s
    exact sqL_ty q
  | dct ks vs =>
    obtain ⟨a, kvs, rfl, q, _⟩ := h.sub_d s
    exact .base (.dK q)
  | _ => cases t <;> cases hi
theorem r_isa1 (hK : X.K = g.K) (t : Ty) : CallR X (.builtin "isinstance") (fun xs H Q => ∃ x, xs = [x, .ty t.name] ∧ rPL g (.isa [t]) [x] H Q) := by
  refine callR_of call_isi fun xs H Q ⟨x, ex, h⟩ => ?_
  obtain ⟨P, y, a, d, e, sub, h1, hf, k⟩ := rPL1_inv rfl h
  cases e
  unfold isaD at hf
  cases e : D.isa t a with
  | none => simp [e] at hf
  | some r =>
    have e2 : d = .bl r := by
      simp [e] at hf
      exact hf.symm
    subst e2
    exact ⟨x, .ty t.name, .type a.tyName, .type t.name, r, ex, .ty _, by rw [hK]; exact h1.ty sub e, kit_ty (kit_isa t a e), give sub k rfl (.bl _)⟩
end
end PV
end

section
set_option Elab.async false
set_option linter.all false
set_option maxRecDepth 100000
set_option maxHeartbeats 1000000
/-! PV10: calls of defs. -/
namespace PV
open PySem L2

def argEnv (ws : List PV.W) (args : List D) : Env := (ws.zip args).map some
/-- a def's promise: it does what its code answers -/
def SpF (g : Gx) (cf : CF) (k : Nat) (ws : List PV.W) (rw : PV.W) : Sp := fun vs H Q E => ∃ args P ψ, args.length = ws.length ∧ Rel g (argEnv ws args) (vs.map some) H P ψ ∧
  match cf k args with
  | .ok p => p.2.length = ws.length ∧ ∀ v H' P' ψ', Rel g (argEnv ws p.2) (vs.map some) H' P' ψ' → Step H P ψ H' P' ψ' → ρW g (fun _ => rw) p.1 v H P' H' ψ' → Q v H'
  | .exc x outs => outs.length = ws.length ∧ ∀ cls dx H' P' ψ', Rel g (argEnv ws outs) (vs.map some) H' P' ψ' → Step H P ψ H' P' ψ' → XOk g x cls dx P' H' → E cls dx H'
  | .stuck => False

/-- the holdings of written arguments -/
def wsOf : C → List PV.W
  | .cons (.io _ w) r => w :: wsOf r
  | .cons _ r => .frz :: wsOf r
  | _ => []
/-- the place at which slot i is handed over -/
def posOf : C → Nat → Option Nat
  | .cons (.io k _) r, i => if k = i then some 0 else (posOf r i).map (· + 1)
  | .cons _ r, i => (posOf r i).map (· + 1)
  | _, _ => none
def ioAt : C → Nat → Option Nat
  | .cons (.io i _) _, 0 => some i
  | .cons _ r, j + 1 => ioAt r j
  | _, _ => none
/-- no slot is handed over twice -/
def ioOnce : C → Bool
  | .cons (.io k _) r => (posOf r k).isNone && ioOnce r
  | .cons _ r => ioOnce r
  | _ => true
def C.isIo : C → Bool
  | .io _ _ => true
  | _ => false

/-- arguments' values: handed over, or told for good -/
inductive Cs (g : Gx) (P H : Hp) (φ : Nat → List Addr) (σ : L2.St) (env : Env) : C → List V → List D → Prop
  | nil : Cs g P H φ σ env .nil [] []
  | io {i : Nat} {w : PV.W} {r : C} {v : V} {vs : List V} {d : D} {ds : List D} : env[i]? = some (some (w, d)) → σ[i]? = some (some v) → On g P H v w d (φ i) → Cs g P H φ σ env r vs ds → Cs g P H φ σ env (.cons (.io i w) r) (v :: vs) (d :: ds)
  | val {a r : C} {v : V} {vs : List V} {d : D} {ds : List D} : a.isIo = false → Dn g P v d → Cs g P H φ σ env r vs ds → Cs g P H φ σ env (.cons a r) (v :: vs) (d :: ds)
def ρC (g : Gx) (σ : L2.St) (as : C) (env : Env) : List D → List V → Hp → Hp → Hp → (Nat → List Addr) → Prop := fun ds vs _ P H φ => Cs g P H φ σ env as vs ds

section
variable {g : Gx} {W : WX} {cf mk : CF} {σ : L2.St} {H P : Hp} {φ : Nat → List Addr} {env : Env}
theorem Cs.lens {as : C} {vs : List V} {ds : List D} (h : Cs g P H φ σ env as vs ds) : vs.length = (wsOf as).length ∧ ds.length = (wsOf as).length := by
  induction h with
  | nil => exact ⟨rfl, rfl⟩
  | io _ _ _ _ ih => simp only [wsOf, List.length_cons]; omega
  | @val a r _ _ _ _ hn _ _ ih =>
    have : wsOf (.cons a r) = .frz :: wsOf r := by
      cases a <;> first | rfl | cases hn
    rw [this]; simp only [List.length_cons]; omega
theorem wsOf_val {a r : C} (h : a.isIo = false) : wsOf (.cons a r) = .frz :: wsOf r := by cases a <;> first | rfl | cases h
theorem posOf_val {a r : C} (h : a.isIo = false) (i : Nat) : posOf (.cons a r) i = (posOf r i).map (· + 1) := by cases a <;> first | rfl | cases h
theorem ioAt_val {a r : C} (h : a.isIo = false) : ioAt (.cons a r) 0 = none := by cases a <;> first | rfl | cases h
theorem ioAt_succ {a r : C} (j : Nat) : ioAt (.cons a r) (j + 1) = ioAt r j := by cases a <;> rfl
theorem ioOnce_val {a r : C} (h : a.isIo = false) : ioOnce (.cons a r) = ioOnce r := by cases a <;> first | rfl | cases h
theorem ioSet_val {a r : C} (h : a.isIo = false) (d : D) (ds : List D) (env : Env) : ioSet (.cons a r) (d :: ds) env = ioSet r ds env := by cases a <;> first | rfl | cases h
/-- the arguments' footprints -/
def psi (as : C) (φ : Nat → List Addr) : Nat → List Addr := fun j => match ioAt as j with
  | some i => φ i
  | none => []
theorem psi_succ {a r : C} (j : Nat) : psi (.cons a r) φ (j + 1) = psi r φ j := by unfold psi; rw [ioAt_succ]
theorem Cs.on {as : C} {vs : List V} {ds : List D} (h : Cs g P H φ σ env as vs ds) : ∀ (j : Nat) (w : PV.W) (d : D), (argEnv (wsOf as) ds)[j]? = some (some (w, d)) → ∃ v, (vs.map some)[j]? = some (some v) ∧ On g P H v w d (psi as φ j) := by
  induction h with
  | nil => intro j w d e; simp [argEnv, wsOf] at e
  | @io i w0 r v vs d0 ds e1 e2 o _ ih =>
    intro j w d e
    cases j with
    | zero =>
      simp [argEnv, wsOf] at e
      obtain ⟨rfl, rfl⟩ := e
      exact ⟨v, by simp, o⟩
    | succ j =>
      obtain ⟨v', e3, o'⟩ := ih j w d (by simpa [argEnv, wsOf] using e)
      exact ⟨v', by simpa using e3, by rw [psi_succ]; exact o'⟩
  | @val a r v vs d0 ds hn dn _ ih =>
    intro j w d e
    rw [wsOf_val hn] at e
    cases j with
    | zero =>
      simp [argEnv] at e
      obtain ⟨rfl, rfl⟩ := e
      refine ⟨v, by simp, ?_⟩
      unfold psi
      rw [ioAt_val hn]
      exact .frz dn
    | succ j =>
      obtain ⟨v', e3, o'⟩ := ih j w d (by simpa [argEnv] using e)
      exact ⟨v', by simpa using e3, by rw [psi_succ]; exact o'⟩
theorem posOf_at : ∀ (as : C) (j i : Nat), ioOnce as = true → ioAt as j = some i → posOf as i = some j
  | .cons a r, 0, i, ho, h => by
    cases a with
    | io k w =>
      simp only [ioAt, Option.some.injEq] at h
      subst h
      simp only [posOf, if_true]
    | _ => simp [ioAt] at h
  | .cons a r, j + 1, i, ho, h => by
    rw [ioAt_succ] at h
    cases a with
    | io k w =>
      simp only [ioOnce, Bool.and_eq_true, Option.isNone_iff_eq_none] at ho
      have ih := posOf_at r j i ho.2 h
      simp only [posOf]
      rw [if_neg (fun z => by rw [← z, ho.1] at ih; cases ih), ih]
      rfl
    | _ =>
      have ih := posOf_at r j i (by simpa only [ioOnce] using ho) h
      simp only [posOf, ih]
      rfl
  | .nil, j, i, _, h => by simp [ioAt] at h
  | .var _, j, i, _, h => by simp [ioAt] at h
  | .brw .., j, i, _, h => by simp [ioAt] at h
  | .io .., j, i, _, h => by simp [ioAt] at h
  | .lit .., j, i, _, h => by simp [ioAt] at h
  | .prim .., j, i, _, h => by simp [ioAt] at h
  | .sl .., j, i, _, h => by simp [ioAt] at h
  | .and .., j, i, _, h => by simp [ioAt] at h
  | .or .., j, i, _, h => by simp [ioAt] at h
  | .ite .., j, i, _, h => by simp [ioAt] at h
  | .chain .., j, i, _, h => by simp [ioAt] at h
  | .tup .., j, i, _, h => by simp [ioAt] at h
  | .lst .., j, i, _, h => by simp [ioAt] at h
  | .dct .., j, i, _, h => by simp [ioAt] at h
  | .call .., j, i, _, h => by simp [ioAt] at h
  | .callM .., j, i, _, h => by simp [ioAt] at h
  | .callK .., j, i, _, h => by simp [ioAt] at h
  | .get .., j, i, _, h => by simp [ioAt] at h
  | .make .., j, i, _, h => by simp [ioAt] at h
  | .comp .., j, i, _, h => by simp [ioAt] at h
  | .pop .., j, i, _, h => by simp [ioAt] at h
  | .popAt .., j, i, _, h => by simp [ioAt] at h
  | .itVal .., j, i, _, h => by simp [ioAt] at h
  | .itRange1 .., j, i, _, h => by simp [ioAt] at h
  | .itRange2 .., j, i, _, h => by simp [ioAt] at h
  | .itEnum .., j, i, _, h => by simp [ioAt] at h
  | .itZip .., j, i, _, h => by simp [ioAt] at h
  | .tgName .., j, i, _, h => by simp [ioAt] at h
  | .tgTup .., j, i, _, h => by simp [ioAt] at h
  | .stuck, j, i, _, h => by simp [ioAt] at h
theorem Cs.rel {as : C} {vs : List V} {ds : List D} (h : Cs g P H φ σ env as vs ds) (ho : ioOnce as = true) (rel : Rel g env σ H P φ) : Rel g (argEnv (wsOf as) ds) (vs.map some) H P (psi as φ) where
  len := by
    obtain ⟨a, b⟩ := h.lens
    simp only [argEnv, List.length_map, List.length_zip]; omega
  on := h.on
  nd := fun j => by
    unfold psi
    split
    · exact rel.nd _
    · exact List.nodup_nil
  dj := fun j k a hj hk => by
    unfold psi at hj hk
    split at hj
    · rename_i i ei
      split at hk
      · rename_i i' ei'
        have e := rel.dj i i' a hj hk
        subst e
        have p1 := posOf_at as j i ho ei
        have p2 := posOf_at as k i ho ei'
        rw [p1] at p2
        exact Option.some.inj p2
      · simp at hk
    · simp at hj
  ap := fun j a hj => by
    unfold psi at hj
    split at hj
    · exact rel.ap _ a hj
    · simp at hj
  tr := fun j a hj => by
    unfold psi at hj
    split at hj
    · exact rel.tr _ a hj
    · simp at hj
  sub := rel.sub
/-- slots behind a call -/
def phi (as : C) (φ ψ' : Nat → List Addr) : Nat → List Addr := fun i => match posOf as i with
  | some j => ψ' j
  | none => φ i
theorem Cs.get {as : C} {vs : List V} {ds : List D} (h : Cs g P H φ σ env as vs ds) (ho : ioOnce as = true) : ∀ (outs : List D), outs.length = (wsOf as).length → ∀ (env2 : Env), (∀ i, (posOf as i).isSome → i < env2.length) → ∀ i,
    match posOf as i with
    | some j => ∃ w d v, (ioSet as outs env2)[i]? = some (some (w, d)) ∧ (argEnv (wsOf as) outs)[j]? = some (some (w, d)) ∧ (vs.map some)[j]? = some (some v) ∧ σ[i]? = some (some v)
    | none => (ioSet as outs env2)[i]? = env2[i]? := by
  induction h with
  | nil => intro outs hl env2 _ i; simp [posOf, ioSet]
  | @io k w0 r v vs d0 ds e1 e2 o hr ih =>
    intro outs hl env2 hlt i
    simp only [ioOnce, Bool.and_eq_true, Option.isNone_iff_eq_none] at ho
    cases outs with
    | nil => simp [wsOf] at hl
    | cons d1 outs =>
      have hl' : outs.length = (wsOf r).length := by simpa [wsOf] using hl
      have hk : k < env2.length := hlt k (by simp [posOf])
      have hlt' : ∀ i, (posOf r i).isSome → i < (setV env2 k w0 d1).length := fun i hi => by
        unfold setV
        rw [List.length_set]
        refine hlt i ?_
        simp only [posOf]
        split
        · simp
        · simpa using hi
      have q := ih ho.2 outs hl' (setV env2 k w0 d1) hlt' i
      simp only [posOf, ioSet]
      by_cases e : k = i
      · subst e
        rw [if_pos rfl]
        rw [ho.1] at q
        simp only at q ⊢
        refine ⟨w0, d1, v, ?_, by simp [argEnv, wsOf], by simp, e2⟩
        rw [q]
        unfold setV
        rw [List.getElem?_set_self hk]
      · rw [if_neg e]
        cases ep : posOf r i with
        | none =>
          rw [ep] at q
          simp only [Option.map_none] at q ⊢
          rw [q]
          unfold setV
          rw [List.getElem?_set_ne e]
        | some j =>
          rw [ep] at q
          simp only [Option.map_some] at q ⊢
          obtain ⟨w, d, v', a1, a2, a3, a4⟩ := q
          exact ⟨w, d, v', a1, by simpa [argEnv, wsOf] using a2, by simpa using a3, a4⟩
  | @val a r v vs d0 ds hn dn hr ih =>
    intro outs hl env2 hlt i
    rw [ioOnce_val hn] at ho
    rw [wsOf_val hn] at hl
    cases outs with
    | nil => simp at hl
    | cons d1 outs =>
      have q := ih ho outs (by simpa using hl) env2 (fun i hi => hlt i (by rw [posOf_val hn]; simpa using hi)) i
      rw [posOf_val hn, ioSet_val hn, wsOf_val hn]
      cases ep : posOf r i with
      | none => rw [ep] at q; simpa using q
      | some j =>
        rw [ep] at q
        simp only [Option.map_some] at q ⊢
        obtain ⟨w, d, v', a1, a2, a3, a4⟩ := q
        exact ⟨w, d, v', a1, by simpa [argEnv] using a2, by simpa using a3, a4⟩
theorem at_posOf : ∀ (as : C) (i j : Nat), posOf as i = some j → ioAt as j = some i
  | .cons a r, i, j, h => by
    by_cases ha : a.isIo = true
    · cases a with
      | io k w =>
        simp only [posOf] at h
        split at h
        · cases h
          simp only [ioAt]
          congr 1
        · obtain ⟨j', e, rfl⟩ := Option.map_eq_some_iff.mp h
          rw [ioAt_succ]
          exact at_posOf r i j' e
      | _ => cases ha
    · have hn : a.isIo = false := by simpa using ha
      rw [posOf_val hn] at h
      obtain ⟨j', e, rfl⟩ := Option.map_eq_some_iff.mp h
      rw [ioAt_succ]
      exact at_posOf r i j' e
  | .nil, i, j, h => by simp [posOf] at h
  | .var _, i, j, h => by simp [posOf] at h
  | .brw .., i, j, h => by simp [posOf] at h
  | .io .., i, j, h => by simp [posOf] at h
  | .lit .., i, j, h => by simp [posOf] at h
  | .prim .., i, j, h => by simp [posOf] at h
  | .sl .., i, j, h => by simp [posOf] at h
  | .and .., i, j, h => by simp [posOf] at h
  | .or .., i, j, h => by simp [posOf] at h
  | .ite .., i, j, h => by simp [posOf] at h
  | .chain .., i, j, h => by simp [posOf] at h
  | .tup .., i, j, h => by simp [posOf] at h
  | .lst .., i, j, h => by simp [posOf] at h
  | .dct .., i, j, h => by simp [posOf] at h
  | .call .., i, j, h => by simp [posOf] at h
  | .callM .., i, j, h => by simp [posOf] at h
  | .make .., i, j, h => by simp [posOf] at h
  | .comp .., i, j, h => by simp [posOf] at h
  | .pop .., i, j, h => by simp [posOf] at h
  | .popAt .., i, j, h => by simp [posOf] at h
  | .itVal .., i, j, h => by simp [posOf] at h
  | .itRange1 .., i, j, h => by simp [posOf] at h
  | .itRange2 .., i, j, h => by simp [posOf] at h
  | .itEnum .., i, j, h => by simp [posOf] at h
  | .itZip .., i, j, h => by simp [posOf] at h
  | .tgName .., i, j, h => by simp [posOf] at h
  | .tgTup .., i, j, h => by simp [posOf] at h
  | .stuck, i, j, h => by simp [posOf] at h
theorem Cs.lt {as : C} {vs : List V} {ds : List D} (h : Cs g P H φ σ env as vs ds) : ∀ i, (posOf as i).isSome → i < env.length := by
  induction h with
  | nil => intro i hi; simp [posOf] at hi
  | @io k w0 r v vs d0 ds e1 e2 o hr ih =>
    intro i hi
    simp only [posOf] at hi
    split at hi
    · rename_i e
      subst e
      rcases Nat.lt_or_ge k env.length with h1 | h1
      · exact h1
      · rw [List.getElem?_eq_none h1] at e1; cases e1
    · exact ih i (by simpa using hi)
  | val hn dn hr ih =>
    intro i hi
    rw [posOf_val hn] at hi
    exact ih i (by simpa using hi)
theorem ioSet_length : ∀ (as : C) (outs : List D) (env : Env), (ioSet as outs env).length = env.length := by
  intro as
  induction as with
  | cons a r _ ih =>
    intro outs env
    cases outs with
    | nil => cases a <;> rfl
    | cons d outs =>
      by_cases ha : a.isIo = true
      · cases a with
        | io k w =>
          simp only [ioSet, ih]
          unfold setV
          rw [List.length_set]
        | _ => cases ha
      · rw [ioSet_val (by simpa using ha)]; exact ih outs env
  | _ => intro outs env; cases outs <;> rfl
theorem Cs.after {as : C} {vs : List V} {ds outs : List D} {H' P' : Hp} {ψ' : Nat → List Addr} (h : Cs g P H φ σ env as vs ds) (ho : ioOnce as = true) (rel : Rel g env σ H P φ) (hl : outs.length = (wsOf as).length)
    (r' : Rel g (argEnv (wsOf as) outs) (vs.map some) H' P' ψ') (st : Step H P (psi as φ) H' P' ψ') : Rel g (ioSet as outs env) σ H' P' (phi as φ ψ') ∧ Step H P φ H' P' (phi as φ ψ') := by
  have get := h.get ho outs hl env h.lt
  have sub : ∀ a j, a ∈ psi as φ j → ∃ i, a ∈ φ i ∧ posOf as i = some j := fun a j ha => by
    unfold psi at ha
    split at ha
    · rename_i i ei
      exact ⟨i, ha, posOf_at as j i ho ei⟩
    · simp at ha
  constructor
  · refine ⟨by rw [ioSet_length]; exact rel.len, fun i w d e => ?_, fun i => ?_, fun i k a hi hk => ?_, fun i a hi => ?_, fun i a hi => ?_, r'.sub⟩
    · have q := get i
      unfold phi
      cases ep : posOf as i with
      | none =>
        rw [ep] at q
        simp only at q ⊢
        rw [q] at e
        obtain ⟨v, e1, o⟩ := rel.on i w d e
        refine ⟨v, e1, o.frame st.pm fun a ha o ho' => st.keep a o ho' fun j hj => ?_⟩
        obtain ⟨i', hi', p'⟩ := sub a j hj
        have := rel.dj i i' a ha hi'
        subst this
        rw [ep] at p'; cases p'
      | some j =>
        rw [ep] at q
        simp only at q ⊢
        obtain ⟨w', d', v, a1, a2, a3, a4⟩ := q
        rw [a1] at e
        cases e
        obtain ⟨v2, e2, o⟩ := r'.on j w d a2
        rw [a3] at e2
        cases e2
        exact ⟨v, a4, o⟩
    · unfold phi
      split
      · exact r'.nd _
      · exact rel.nd _
    · unfold phi at hi hk
      cases e1 : posOf as i with
      | none =>
        rw [e1] at hi
        cases e2 : posOf as k with
        | none => rw [e2] at hk; exact rel.dj i k a hi hk
        | some j =>
          rw [e2] at hk
          rcases st.fr j a hk with ⟨j', z⟩ | z
          · obtain ⟨i', hi', p'⟩ := sub a j' z
            have := rel.dj i i' a hi hi'
            subst this
            rw [e1] at p'; cases p'
          · exact absurd z (rel.tr i a hi)
      | some j =>
        rw [e1] at hi
        cases e2 : posOf as k with
        | none =>
          rw [e2] at hk
          rcases st.fr j a hi with ⟨j', z⟩ | z
          · obtain ⟨i', hi', p'⟩ := sub a j' z
            have := rel.dj k i' a hk hi'
            subst this
            rw [e2] at p'; cases p'
          · exact absurd z (rel.tr k a hk)
        | some j2 =>
          rw [e2] at hk
          have := r'.dj j j2 a hi hk
          subst this
          have x1 := at_posOf as i j e1
          have x2 := at_posOf as k j e2
          rw [x1] at x2
          exact Option.some.inj x2
    · unfold phi at hi
      cases e1 : posOf as i with
      | none =>
        rw [e1] at hi
        by_cases z : P' a = none
        · exact z
        · rcases st.pn a z with y | ⟨j, y⟩ | y
          · exact absurd (rel.ap i a hi) y
          · obtain ⟨i', hi', p'⟩ := sub a j y
            have := rel.dj i i' a hi hi'
            subst this
            rw [e1] at p'; cases p'
          · exact absurd y (rel.tr i a hi)
      | some j => rw [e1] at hi; exact r'.ap j a hi
    · unfold phi at hi
      cases e1 : posOf as i with
      | none => rw [e1] at hi; exact st.there a (rel.tr i a hi)
      | some j => rw [e1] at hi; exact r'.tr j a hi
  · refine ⟨fun a o h n => st.keep a o h fun j hj => ?_, st.there, st.pm, fun i a hi => ?_, fun a ha => ?_⟩
    · obtain ⟨i', hi', _⟩ := sub a j hj
      exact n i' hi'
    · unfold phi at hi
      cases e1 : posOf as i with
      | none => rw [e1] at hi; exact .inl ⟨i, hi⟩
      | some j =>
        rw [e1] at hi
        rcases st.fr j a hi with ⟨j', z⟩ | z
        · obtain ⟨i', hi', _⟩ := sub a j' z
          exact .inl ⟨i', hi'⟩
        · exact .inr z
    · rcases st.pn a ha with y | ⟨j, y⟩ | y
      · exact .inl y
      · obtain ⟨i', hi', _⟩ := sub a j y
        exact .inr (.inl ⟨i', hi'⟩)
      · exact .inr (.inr y)

/-! ### arguments of a call, read -/
def PostC (g : Gx) (W : WX) (σ : L2.St) (H P : Hp) (φ : Nat → List Addr) (c : C) (r : R Env (List D × Env)) (Q : List V → Hp → Prop) : Prop := match r with
  | .ok p => ∀ vs H' P' φ', Rel g p.2 σ H' P' φ' → Step H P φ H' P' φ' → Cs g P' H' φ' σ p.2 c vs p.1 → Q vs H'
  | .exc x e => ∀ cls dx H' P' φ', Rel g e σ H' P' φ' → Step H P φ H' P' φ' → XOk g x cls dx P' H' → W cls dx σ H'
  | .stuck => False
def tC (g : Gx) (W : WX) (cf mk : CF) (c : C) : TA := fun σ H Q => ∃ env P φ, Rel g env σ H P φ ∧ PostC g W σ H P φ c (evC cf mk c env) Q
def tCs (g : Gx) (W : WX) (cf mk : CF) : C → TA
  | .cons (.io i _) as => tCons (tVar i) (tCs g W cf mk as)
  | .cons a as => tCons (tE g W cf mk a) (tCs g W cf mk as)
  | _ => tNil
theorem tCs_val {a as : C} (h : a.isIo = false) : tCs g W cf mk (.cons a as) = tCons (tE g W cf mk a) (tCs g W cf mk as) := by cases a <;> first | rfl | cases h
theorem evC_val {a as : C} (h : a.isIo = false) : evC cf mk (.cons a as) env = (evE cf mk a env).bind fun r => (evC cf mk as r.2).bind fun q => .ok (r.1 :: q.1, q.2) := by
  cases a <;> first | (simp only [evC]; done) | (simp only [evC] <;> rfl) | cases h
theorem tCs_of (as : C) : ∀ {σ : L2.St} {H : Hp} {Q : List V → Hp → Prop}, tC g W cf mk as σ H Q → tCs g W cf mk as σ H Q := by
  induction as with
  | nil =>
    rintro σ H Q ⟨env, P, φ, rel, p⟩
    simp only [evC] at p
    exact p [] H P φ rel Step.refl .nil
  | cons a as _ ih =>
    rintro σ H Q ⟨env, P, φ, rel, p⟩
    by_cases ha : a.isIo = true
    · cases a with
      | io i w =>
        show tVar i σ H fun x H1 => tCs g W cf mk as σ H1 fun xs H2 => Q (x :: xs) H2
        simp only [evC] at p
        by_cases hs : (getV env i).isSome = true
        · rw [if_pos hs] at p
          unfold getV at hs
          split at hs
          · rename_i w0 d0 e
            obtain ⟨v, ev, _⟩ := rel.on i w0 d0 e
            refine ⟨v, ev, ih ⟨env, P, φ, rel, ?_⟩⟩
            cases er : evC cf mk as env with
            | ok r =>
              rw [er] at p
              intro vs H' P' φ' rel' st hcs
              simp only [R.bind_ok] at p
              split at p
              · rename_i d hd
                unfold readIO at hd
                split at hd
                · rename_i w2 d2 e2
                  split at hd
                  · rename_i hw
                    cases hd
                    have hw' := PV.W.same_eq _ _ hw
                    subst hw'
                    obtain ⟨v2, ev2, o2⟩ := rel'.on i w2 d e2
                    rw [ev] at ev2
                    cases ev2
                    exact p (v :: vs) H' P' φ' rel' st (.io e2 ev o2 hcs)
                  · cases hd
                · cases hd
              · exact p.elim
            | exc x e' => rw [er] at p; exact p
            | stuck => rw [er] at p; exact p
          · simp at hs
        · rw [if_neg hs] at p
          exact p.elim
      | _ => cases ha
    · have hn : a.isIo = false := by simpa using ha
      rw [tCs_val hn]
      show tE g W cf mk a σ H fun x H1 => tCs g W cf mk as σ H1 fun xs H2 => Q (x :: xs) H2
      rw [evC_val hn] at p
      refine tE_of_tD ⟨env, P, φ, rel, ?_⟩
      cases er : evE cf mk a env with
      | ok r =>
        rw [er] at p
        simp only [R.bind_ok] at p
        intro v H' P' φ' rel' st hd
        refine ih ⟨r.2, P', φ', rel', ?_⟩
        cases er2 : evC cf mk as r.2 with
        | ok q =>
          rw [er2] at p
          intro vs H2 P2 φ2 rel2 st2 hcs
          exact p (v :: vs) H2 P2 φ2 rel2 (st.trans st2) (.val hn (Dn.mono st2.pm hd) hcs)
        | exc x e' => rw [er2] at p; exact fun cls dx H2 P2 φ2 rel2 st2 xo => p cls dx H2 P2 φ2 rel2 (st.trans st2) xo
        | stuck => rw [er2] at p; exact p
      | exc x e' => rw [er] at p; exact p
      | stuck => rw [er] at p; exact p
  | _ =>
    rintro σ H Q ⟨env, P, φ, rel, p⟩
    simp only [evC] at p
    exact p.elim
end
section
variable {X : Cx} {g : Gx} {W : WX} {cf mk : CF} {e : Expr} {es : List Expr} {ca cb : C} {pos : Pos}
theorem pa_cs_nil : PA X [] (tCs g W cf mk .nil) := pa_nil
theorem pa_cs_io {i : Nat} {w : PV.W} (ha : PE X e (tVar i)) (hr : PA X es (tCs g W cf mk cb)) (h : isStar e = false) : PA X (e :: es) (tCs g W cf mk (.cons (.io i w) cb)) := pa_cons ha hr (star_of _ h)
theorem pa_cs_val (ha : PE X e (tE g W cf mk ca)) (hn : ca.isIo = false) (hr : PA X es (tCs g W cf mk cb)) (h : isStar e = false) : PA X (e :: es) (tCs g W cf mk (.cons ca cb)) := by
  rw [tCs_val hn]; exact pa_cons ha hr (star_of _ h)
/-- answers of defs bring all arguments back -/
structure CFok (cf : CF) : Prop where
  ok : ∀ k args p, cf k args = .ok p → p.2.length = args.length
  ex : ∀ k args x outs, cf k args = .exc x outs → outs.length = args.length
/-- what a call's answer gives to its caller -/
theorem call_imp {k : Nat} {σ : L2.St} {H : Hp} {Q : VK} (hcf : CFok cf) (ho : ioOnce ca = true) {rw : PV.W} (h : tE g W cf mk (.call k rw ca) σ H Q) : tCs g W cf mk ca σ H fun vs H1 => SpF g cf k (wsOf ca) rw vs H1 Q (WE W σ) := by
  obtain ⟨env, P, φ, rel, p⟩ := h
  simp only [evE] at p
  refine tCs_of ca ⟨env, P, φ, rel, ?_⟩
  cases er : evC cf mk ca env with
  | ok r =>
    rw [er] at p
    simp only [R.bind_ok] at p
    intro vs H1 P1 φ1 rel1 st1 hcs
    refine ⟨r.1, P1, psi ca φ1, hcs.lens.2, hcs.rel ho rel1, ?_⟩
    cases ec : cf k r.1 with
    | ok q =>
      rw [ec] at p
      simp only at p ⊢
      have hl : q.2.length = (wsOf ca).length := by rw [hcf.ok _ _ _ ec, hcs.lens.2]
      refine ⟨hl, fun v H' P' ψ' r' st' ⟨fp, on, nd, ap⟩ => ?_⟩
      obtain ⟨rel2, st2⟩ := hcs.after ho rel1 hl r' st'
      refine p v H' P' _ rel2 (st1.trans st2) ⟨fp, on, nd, fun a ha => ⟨st1.back (ap a ha).1, (ap a ha).2.1, fun i hi => ?_⟩⟩
      unfold phi at hi
      split at hi
      · exact (ap a ha).2.2 _ hi
      · exact rel1.tr i a hi (ap a ha).1
    | exc x outs =>
      rw [ec] at p
      simp only at p ⊢
      have hl : outs.length = (wsOf ca).length := by rw [hcf.ex _ _ _ _ ec, hcs.lens.2]
      refine ⟨hl, fun cls dx H' P' ψ' r' st' xo => ?_⟩
      obtain ⟨rel2, st2⟩ := hcs.after ho rel1 hl r' st'
      exact p cls dx H' P' _ rel2 (st1.trans st2) xo
    | stuck => rw [ec] at p; exact p
  | exc x e' => rw [er] at p; exact p
  | stuck => rw [er] at p; exact p
/-! ### defs, where no text of a list is under way -/
structure FnG (P : Program) (w : World) (K : PySem.W.Frag) (mg : Str → Option Value) (base : Heap) (k : Nat) (f : Addr) (fd : FuncData) (ps : List Str) (sp : Sp) : Prop where
  len : ∀ vs H Q E, sp vs H Q E → vs.length = ps.length
  run : ∀ (A : Around) (outer : List PySem.Env) (s : Shared) (H : Hp) (args : Args) (us : List Value) (vs : List V) (Q : VK) (E : XK), A.guards = some [] → Room k A → Env0 P w K mg base A outer s H → BindsTo s fd args (ps.zip us) → Vals vs us → sp vs H Q E →
    codeAny (model P w) A (.call (.ref f) args) (CR (L2.CX P w) outer P w H s Q E) s
theorem FnG.mono {P : Program} {w : World} {K : PySem.W.Frag} {mg : Str → Option Value} {base : Heap} {j k : Nat} {f : Addr} {fd : FuncData} {ps : List Str} {sp : Sp} (F : FnG P w K mg base j f fd ps sp) (h : j ≤ k) : FnG P w K mg base k f fd ps sp :=
  ⟨F.len, fun A outer s H args us vs Q E hgu hr => F.run A outer s H args us vs Q E hgu (hr.mono h)⟩
theorem run_fnG {pins : List (Addr × Obj)} {σ : L2.St} {H : Hp} {s : Shared} {Q : VK} {k : Nat} {f : Addr} {fd : FuncData} {ps : List Str} {sp : Sp} {us ws : List Value} {kw : List (Str × Value)} {vs : List V} (F : FnG X.prog X.w X.K X.mg X.base k f fd ps sp) (hgu : X.A.guards = some []) (hr : Room k X.A)
    (hb : ws.length = ps.length → BindsTo s fd ⟨us, kw⟩ (ps.zip ws)) (tk : Takes X W) (I : Inv X pins σ H s) (r : Vals vs ws) (h : sp vs H Q (WE W σ)) : wpAny (model X.prog X.w) X.A (PySem.call (.ref f) us kw) (EP X pins σ Q) X.xe s := by
  have hl : ws.length = ps.length := by rw [← r.length]; exact F.len _ _ _ _ h
  refine wpAny_call (codeAny_mono (F.run X.A X.stack s H ⟨us, kw⟩ ws vs Q (WE W σ) hgu hr I.env0 (hb hl) r h) fun r s' hq => ?_)
  cases r with
  | error e => exact passAt tk σ pins H s e s' I hq
  | ok fl =>
    cases fl with
    | ret u => exact I.after hq
    | next => exact False.elim hq
    | brk => exact False.elim hq
    | cont => exact False.elim hq
theorem e_call {x : Str} {n k : Nat} {rw : PV.W} {fa : Addr} {fd : FuncData} {ps : List Str} {p : Pos} (hcf : CFok cf) (F : FnG X.prog X.w X.K X.mg X.base n fa fd ps (SpF g cf k (wsOf ca) rw)) (hgu : X.A.guards = some []) (hr : Room n X.A) (hg : Gl X x) (hm : X.mg x = some (.ref fa)) (hk : PySem.W.keepIn X.K (.ref fa) = true) (hb : Binds X.K fd ps [])
    (tk : Takes X W) (hd : (x == ("__debug__" : Str)) = false) (ha : PA X (e :: es) (tCs g W cf mk ca)) (ho : ioOnce ca = true) (hs : noStars (e :: es) = true) : PE X (.Call (.Name x p) (e :: es) [] pos) (tE g W cf mk (.call k rw ca)) := by
  simp only [noStars, Bool.and_eq_true, Bool.not_eq_true'] at hs
  refine ⟨fun pins s σ H Q I h => ?_⟩
  have h2 := call_imp hcf ho h
  refine wpAny_Call_Name_kw (ld_glob I hg hm ?_ hd)
  refine PySem.W.callWith_K (h₀ := X.base) I.ok.mod.kin hk (thn (ha.run pos pins s σ H _ I h2) fun us s1 ⟨vs, H1, I1, r, q⟩ => ⟨I1.kIn, ?_⟩) (star_of _ hs.1) (any_stars _ es hs.2)
  exact run_fnG F hgu hr (fun hl => by have b := hb s1 us I1.kIn (by rw [List.append_nil]; exact hl); rw [List.append_nil] at b; exact b) tk I1 r q
theorem e_call0 {x : Str} {n k : Nat} {rw : PV.W} {fa : Addr} {fd : FuncData} {ps : List Str} {p : Pos} (hcf : CFok cf) (F : FnG X.prog X.w X.K X.mg X.base n fa fd ps (SpF g cf k [] rw)) (hgu : X.A.guards = some []) (hr : Room n X.A) (hg : Gl X x) (hm : X.mg x = some (.ref fa)) (hk : PySem.W.keepIn X.K (.ref fa) = true) (hb : Binds X.K fd ps [])
    (tk : Takes X W) (hd : (x == ("__debug__" : Str)) = false) : PE X (.Call (.Name x p) [] [] pos) (tE g W cf mk (.call k rw .nil)) := by
  refine ⟨fun pins s σ H Q I h => ?_⟩
  have h2 : SpF g cf k [] rw [] H Q (WE W σ) := call_imp (ca := .nil) hcf rfl h
  refine wpAny_Call_Name_kw (ld_glob I hg hm ?_ hd)
  exact PySem.W.callWith_K0 I.kIn hk (run_fnG (us := []) (ws := []) F hgu hr (fun hl => hb s [] I.kIn (by simpa using hl)) tk I .nil h2)
end
end PV
end

section
set_option Elab.async false
set_option linter.all false
set_option maxRecDepth 100000
set_option maxHeartbeats 1000000
/-! PV11: what is walked: lists, tuples, ranges, enumerate, zip. -/
namespace PV
open PySem L2

/-! ### enumerate of a tuple -/
section
open PySem.AutoSeq1 (wpAny_loadPart')
theorem meets_enum_newT (l : Addr) (items : Array Value) (n : Nat) (dct : Option Addr) (sl : Array (Option Value)) :
    Meets (Builtin.«enumerate.__new__» ⟨[.type "enumerate", .ref l], []⟩) (fun _ R s => s.heap.get? l = some { cls := .type "tuple", dict := dct, data := .seq items n, slots := sl } ∧
      R (.ok (.ret (.ref (s.heap.push { cls := .type "tuple_iterator", data := .fields #[.ref l, .int 0 0] }).objs.size)))
        { s with heap := (s.heap.push { cls := .type "tuple_iterator", data := .fields #[.ref l, .int 0 0] }).push { cls := .type "enumerate", data := .fields #[.none, .bool false, .ref s.heap.objs.size, rawInt 0, .none, .none] } }) :=
  .of_wp fun prog w A R s h => by
    obtain ⟨hp, g, d, tk, os⟩ := s; obtain ⟨hl, h⟩ := h
    have hsub := sub_enumerate
    have hL : Heap.IsTuple (Shared.heap ⟨hp, g, d, tk, os⟩) l items := ⟨_, hl, rfl, n, rfl⟩
    wp_walk using wpAny_loadPart' hl
    refine wpAny_stack_any fun st => wpAny_pure ?_
    split
    · rename_i c _ _ _ _ _
      cases (c == Value.type "enumerate")
      · wp_walk using wpAny_loadPart' hl, wpAny_pyIter_tuple hL
        exact ⟨_, rfl, h⟩
      · wp_walk using wpAny_loadPart' hl, wpAny_pyIter_tuple hL
        exact ⟨_, rfl, h⟩
    · wp_walk using wpAny_loadPart' hl, wpAny_pyIter_tuple hL
      exact ⟨_, rfl, h⟩
end
section
variable {prog : Program} {w : World} {A : Around} {E : Value → Shared → Prop} {s : Shared}
theorem call_enumT {l : Addr} {items : Array Value} {Q : Value → Shared → Prop} (hL : s.heap.IsTuple l items)
    (h : ∀ h', IsEnum h' (s.heap.objs.size + 1) s.heap.objs.size 0 .none → h'.IsTupleIter s.heap.objs.size l 0 → (∀ b o, s.heap.get? b = some o → h'.get? b = some o) → Q (.ref (s.heap.objs.size + 1)) { s with heap := h' }) :
    wpAny (model prog w) A (PySem.call (.type "enumerate") [.ref l]) Q E s := by
  obtain ⟨⟨c, dct, dt, sl⟩, hl, hc, n, hd⟩ := hL
  replace hc : c = .type "tuple" := hc
  replace hd : dt = .seq items n := hd
  subst hc hd
  refine callType_new F.called_enumerate (by decide) (F.typeCall_enumerate_1 _) (F.newCall_enumerate_1 _) (fun obj => F.args_object_init_2 obj _) F.entry_enumerate_new
    (meets_enum_newT l items n dct sl) ⟨hl, ?_⟩
  have hz : (s.heap.push { cls := .type "tuple_iterator", data := .fields #[.ref l, .int 0 0] }).objs.size = s.heap.objs.size + 1 := Heap.size_push ..
  show _ ∧ _
  rw [hz]
  have he : IsEnum ((s.heap.push { cls := .type "tuple_iterator", data := .fields #[.ref l, .int 0 0] }).push
      { cls := .type "enumerate", data := .fields #[.none, .bool false, .ref s.heap.objs.size, rawInt 0, .none, .none] }) (s.heap.objs.size + 1) s.heap.objs.size 0 .none := by
    have := Heap.get?_push_size (s.heap.push { cls := .type "tuple_iterator", data := .fields #[.ref l, .int 0 0] })
      (o := { cls := .type "enumerate", data := .fields #[.none, .bool false, .ref s.heap.objs.size, rawInt 0, .none, .none] }) rfl
    rw [hz] at this; exact this
  exact ⟨⟨_, he, rfl⟩, h _ he ⟨_, Heap.get?_push_of_some _ (Heap.get?_push_size _ rfl), rfl, rfl⟩ fun b o x => Heap.get?_push_of_some _ (Heap.get?_push_of_some _ x)⟩
theorem draws_tup (hh : A.handled = none) (it l : Addr) (hne : l ≠ it) (items : Array Value) :
    Draws prog w A it [it, l] items.size (fun i v => items[i]? = some v) (fun i h => h.IsTupleIter it l i ∧ h.IsTuple l items) where
  live := fun _ _ st => let ⟨o, ho, _⟩ := st.1; ⟨o, ho⟩
  frame := fun _ _ _ st hk => ⟨st.1.at fun o q => hk it (by simp) o q, let ⟨o, ho, r⟩ := st.2; ⟨o, hk l (by simp) o ho, r⟩⟩
  item := fun i s Q E hi st hQ => by
    refine RZ.nextOf_tuple_item st.1 st.2 (x := items[i]) (by simp [hi]) fun h' hit' hs' => ?_
    exact hQ _ h' s.toks (by simp [hi]) ⟨hit', st.2.extBut hs'.extBut hne⟩ hs'
  done := fun s Q E st hE => RZ.nextOf_tuple_end hh st.1 st.2 (by simp) hE
end
def IteT (K : PySem.W.Frag) (a : Addr) : It :=
  ⟨fun i H => ∃ (xs : List V) (x : V), SqT K H a xs ∧ xs[i]? = some x, fun i H v H' => ∃ T x, v = .ref T ∧ H T = none ∧ H' = upd H T (.tup [.int (i : Nat), x]) ∧ ∀ xs, SqT K H a xs → xs[i]? = some x, fun i H => ∃ xs : List V, SqT K H a xs ∧ xs.length = i⟩
theorem turn_enumT {P : Program} {w : World} {K : PySem.W.Frag} {elts : List Expr} {kk : Nat} {tpos : Pos} (a e it : Addr) :
    Turn P w K (.Tuple elts kk tpos) (IteT K a) [e, it] e (fun i h => (∃ old, IsEnum h e it ((i : Nat) : Int) old) ∧ h.IsTupleIter it a i ∧ e ≠ it ∧ a ≠ it ∧ a ≠ e) where
  mem := by simp
  obj := fun i h st b hb => by
    obtain ⟨⟨old, he⟩, ⟨o, ho, hc, hd⟩, _⟩ := st
    have e' : b = e ∨ b = it := by simpa using hb
    rcases e' with z | z
    · rw [z]; exact ⟨_, he, fun v q => nomatch q⟩
    · rw [z]; exact ⟨o, ho, fun v q => by rw [hd] at q; cases q⟩
  keep := fun i h h' st k => let ⟨⟨old, he⟩, hi, hne⟩ := st; ⟨⟨old, k e (by simp) _ he⟩, hi.at fun o q => k it (by simp) o q, hne⟩
  item := by
    intro X hP hw hK hc i pins s σ H E I hf st hg
    subst hP hw hK
    obtain ⟨⟨old, he⟩, hit, hne, hai, hae⟩ := st
    obtain ⟨xs, x, hq, hx⟩ := hg
    obtain ⟨its, rv, p, hz⟩ := I.tuple hq
    obtain ⟨u, hu, ru⟩ := rv.get hx
    have hel : e < s.heap.objs.size := Heap.lt_size he
    have hil : it < s.heap.objs.size := by obtain ⟨_, q, _⟩ := hit; exact Heap.lt_size q
    have hlt : i < its.toArray.size := by
      have := (List.getElem?_eq_some_iff.mp hu).1
      simpa using this
    refine wpAny_pyNext_enum_itemD (draws_tup (prog := X.prog) (w := X.w) (A := X.A.in1) (I.ok.hd hc) it a hai its.toArray) he ⟨hit, p⟩ hlt hne (by simp [hne, Ne.symm hae]) fun x' h' tk hp' ho hit' hT hsz hk => ?_
    have ex : x' = u := by
      have q : its.toArray[i]? = some x' := hp'
      have q2 : its.toArray[i]? = some u := by simpa using hu
      rw [q2] at q; exact (Option.some.inj q).symm
    subst ex
    refine ⟨_, rfl, wpAny_letOwnedTupleGo_enum (s := { s with heap := h', toks := tk + 1 }) ho fun h'' he' sb => ?_⟩
    have hT2 : h''.get? s.heap.objs.size = some { cls := .type "tuple", data := .seq #[.int i tk, x'] } := (sb.2 _ (Nat.ne_of_gt hel)).trans hT
    have new : ObjOk X.prog X.w (upd H s.heap.objs.size (.tup [.int (i : Nat), x])) h'' s.heap.objs.size (.tup [.int (i : Nat), x]) :=
      ⟨by show 2 ≤ sizeLine; decide, [.int i tk, x'], .cons ⟨_, rfl⟩ (.cons ru .nil), ⟨_, hT2, rfl, _, rfl⟩⟩
    have I1 : Inv X pins σ (upd H s.heap.objs.size (.tup [.int (i : Nat), x])) { s with heap := h'', toks := tk + 1 } :=
      I.turnedNew (ch := [e, it]) (fun b ob hb q => (sb.2 b (fun z => hb (by simp [z]))).trans (hk b ob (fun z => hb (by simp [z])) (fun z => hb (by simp [z])) q)) hf (Nat.le_refl _) new
    refine ⟨.ref s.heap.objs.size, _, I1, rfl, ⟨_, x, rfl, I.hok.fresh (Nat.le_refl _), rfl, fun ys hy => by rw [I.tuple_inj hy hq]; exact hx⟩, ⟨⟨x', ?_⟩, hit'.1.at fun o q => (sb.2 it (Ne.symm hne)).trans q, hne, hai, hae⟩, fun b hb => ?_⟩
    · have e1 : ((i + 1 : Nat) : Int) = (i : Int) + 1 := by omega
      rw [e1]; exact he'
    · have hb' : b < s.heap.objs.size := by
        have e' : b = e ∨ b = it := by simpa using hb
        rcases e' with z | z
        · rw [z]; exact hel
        · rw [z]; exact hil
      rw [upd_ne (Nat.ne_of_lt hb')]
      exact (hf b hb).1
  done := by
    intro X hP hw hK hc i pins s σ H E I hf st hg
    subst hP hw hK
    obtain ⟨⟨old, he⟩, hit, hne, hai, hae⟩ := st
    obtain ⟨xs, hq, hx⟩ := hg
    obtain ⟨its, rv, p, hz⟩ := I.tuple hq
    obtain ⟨f0, f1, f2, f3, f4, f5⟩ := hf it (by simp)
    have hl := rv.length
    have ei : i = its.toArray.size := by simp; omega
    subst ei
    exact wpAny_pyNext_enum_endD (draws_tup (prog := X.prog) (w := X.w) (A := X.A.in1) (I.ok.hd hc) it a hai its.toArray) he ⟨hit, p⟩ fun h' eb => ⟨rfl, I.turned (t' := s.toks) (fun b o hb q => eb b o hb q) f0 f1 f3 f4 f5⟩
  self := fun A i s Q E st h => let ⟨⟨_, he⟩, _⟩ := st; wpAny_pyIter_enum he h
theorem walk_enumT {K : PySem.W.Frag} {a : Addr} {xs : List V} : Walk (IteT K a) xs.length (fun H => SqT K H a xs) (YPair (fun i => some (.int (i : Nat))) (fun i => xs[i]?)) := by
  refine ⟨fun i _ hi q => ⟨xs, xs[i], q, by simp [hi]⟩, fun _ q => ⟨xs, q, rfl⟩, fun i H v H' _ q y => ?_⟩
  obtain ⟨T, x, h1, h2, h3, h4⟩ := y
  exact ⟨T, .int (i : Nat), x, h1, h2, h3, rfl, h4 xs q⟩
theorem walk_zipT {K : PySem.W.Frag} {a b : Addr} {xs ys : List V} {n : Nat} (hn : n = min xs.length ys.length) : Walk (RZ.ItzT K a b) n (fun H => SqT K H a xs ∧ SqT K H b ys) (YPair (fun i => xs[i]?) (fun i => ys[i]?)) := by
  subst hn
  refine ⟨fun i _ hi q => ?_, fun _ q => ⟨xs, ys, q.1, q.2, by omega⟩, fun i H v H' _ q y => ?_⟩
  · have h1 : i < xs.length := by omega
    have h2 : i < ys.length := by omega
    exact ⟨xs, ys, xs[i], ys[i], q.1, q.2, by simp [h1], by simp [h2]⟩
  · obtain ⟨T, x, z, h1, h2, h3, h4, h5⟩ := y
    exact ⟨T, x, z, h1, h2, h3, h4 xs q.1, h5 ys q.2⟩

/-! ### J walks the data ds, as long as P stands -/
def Wkd (g : Gx) (J : It) (ds : List D) (P0 : Hp) : Prop := ∃ G Y, Walk J ds.length G Y ∧ (∀ H P, Sub P0 P → Sub P H → G H) ∧
  ∀ i H P x H', i < ds.length → Sub P0 P → Sub P H → Y i H x H' → ∃ P' d, Grow H P H' P' ∧ ds[i]? = some d ∧ Dn g P' x d
/-- what is walked, read -/
def tI (g : Gx) (W : WX) (cf mk : CF) (c : C) : TI := fun σ H R => ∃ env P φ, Rel g env σ H P φ ∧
  Post g W σ H P φ (fun ds J _ P' _ _ => Wkd g J ds P') (evI cf mk c env) R
section
variable {g : Gx} {P H : Hp}
theorem Wkd.mono {J : It} {ds : List D} {P' : Hp} (w : Wkd g J ds P) (s : Sub P P') : Wkd g J ds P' := by
  obtain ⟨G, Y, w, hG, hY⟩ := w
  exact ⟨G, Y, w, fun H Q a b => hG H Q (s.trans a) b, fun i H Q x H' hi a b y => hY i H Q x H' hi (s.trans a) b y⟩
theorem wkd_list {a : Addr} {xs : List V} {ds : List D} (h : SqL g.K P a xs) (n : Dns g P xs ds) : Wkd g (Itl g.K a) ds P := by
  refine ⟨_, _, by rw [← n.length]; exact walk_list (xs := xs), fun H Q s1 s2 => sqL_mono (s1.trans s2) h, fun i H Q x H' hi s1 s2 y => ?_⟩
  obtain ⟨rfl, hx⟩ := y
  obtain ⟨d, e, dn⟩ := n.get' hx
  exact ⟨Q, d, Grow.refl s2, e, dn.mono s1⟩
theorem wkd_tup {a : Addr} {xs : List V} {ds : List D} (h : SqT g.K P a xs) (n : Dns g P xs ds) : Wkd g (Itt g.K a) ds P := by
  refine ⟨_, _, by rw [← n.length]; exact walk_tup (xs := xs), fun H Q s1 s2 => sqT_mono (s1.trans s2) h, fun i H Q x H' hi s1 s2 y => ?_⟩
  obtain ⟨rfl, hx⟩ := y
  obtain ⟨d, e, dn⟩ := n.get' hx
  exact ⟨Q, d, Grow.refl s2, e, dn.mono s1⟩
theorem range_len : ∀ (n : Nat) (lo : Int), (rangeD lo n).length = n
  | 0, _ => rfl
  | n + 1, lo => by simp only [rangeD, List.length_cons, range_len n]
theorem range_get : ∀ (n : Nat) (lo : Int) (i : Nat), i < n → (rangeD lo n)[i]? = some (.int (lo + i))
  | 0, _, _, h => absurd h (Nat.not_lt_zero _)
  | n + 1, lo, 0, _ => by simp [rangeD]
  | n + 1, lo, i + 1, h => by
    simp only [rangeD, List.getElem?_cons_succ]
    rw [range_get n (lo + 1) i (by omega)]
    congr 2
    omega
theorem wkd_range {lo : Int} {n : Nat} : Wkd g (Itr lo n) (rangeD lo n) P := by
  refine ⟨_, _, by rw [range_len]; exact walk_range (lo := lo) (n := n), fun _ _ _ _ => trivial, fun i H Q x H' hi s1 s2 y => ?_⟩
  obtain ⟨rfl, rfl⟩ := y
  rw [range_len] at hi
  exact ⟨Q, _, Grow.refl s2, range_get n lo i hi, .int _⟩
theorem pair_dn {Q : Hp} {T : Addr} {x y : V} {d e : D} (s : Sub Q H) (hT : H T = none) (h1 : Dn g Q x d) (h2 : Dn g Q y e) : Grow H Q (upd H T (.tup [x, y])) (upd Q T (.tup [x, y])) ∧ Dn g (upd Q T (.tup [x, y])) (.ref T) (.tup [d, e]) := by
  have gr := Grow.new s hT (.tup [x, y])
  exact ⟨gr, .tup (.inl (.inl upd_same)) (.cons (h1.mono gr.pm) (.cons (h2.mono gr.pm) .nil))⟩
theorem enum_get : ∀ (ds : List D) (k i : Nat) (d : D), ds[i]? = some d → (enumFrom k ds)[i]? = some (.tup [.int ((k + i : Nat) : Int), d])
  | [], _, _, _, h => by simp at h
  | x :: r, k, 0, d, h => by simp at h; subst h; simp [enumFrom]
  | x :: r, k, i + 1, d, h => by
    simp only [enumFrom, List.getElem?_cons_succ]
    have e : k + 1 + i = k + (i + 1) := by omega
    rw [enum_get r (k + 1) i d (by simpa using h), e]
theorem enum_len : ∀ (ds : List D) (k : Nat), (enumFrom k ds).length = ds.length
  | [], _ => rfl
  | _ :: r, k => by simp only [enumFrom, List.length_cons, enum_len r]
theorem wkd_enum {a : Addr} {xs : List V} {ds : List D} (h : SqL g.K P a xs) (n : Dns g P xs ds) : Wkd g (Ite g.K a) (enumFrom 0 ds) P := by
  refine ⟨_, _, by rw [enum_len, ← n.length]; exact walk_enum (xs := xs), fun H Q s1 s2 => sqL_mono (s1.trans s2) h, fun i H Q x H' hi s1 s2 y => ?_⟩
  obtain ⟨T, x1, y1, rfl, hT, rfl, e1, e2⟩ := y
  cases e1
  obtain ⟨d, e, dn⟩ := n.get' e2
  obtain ⟨gr, dn2⟩ := pair_dn (g := g) s2 hT (.int ((i : Nat) : Int)) (dn.mono s1)
  exact ⟨_, _, gr, by rw [enum_get ds 0 i d e, Nat.zero_add], dn2⟩
theorem wkd_enumT {a : Addr} {xs : List V} {ds : List D} (h : SqT g.K P a xs) (n : Dns g P xs ds) : Wkd g (IteT g.K a) (enumFrom 0 ds) P := by
  refine ⟨_, _, by rw [enum_len, ← n.length]; exact walk_enumT (xs := xs), fun H Q s1 s2 => sqT_mono (s1.trans s2) h, fun i H Q x H' hi s1 s2 y => ?_⟩
  obtain ⟨T, x1, y1, rfl, hT, rfl, e1, e2⟩ := y
  cases e1
  obtain ⟨d, e, dn⟩ := n.get' e2
  obtain ⟨gr, dn2⟩ := pair_dn (g := g) s2 hT (.int ((i : Nat) : Int)) (dn.mono s1)
  exact ⟨_, _, gr, by rw [enum_get ds 0 i d e, Nat.zero_add], dn2⟩
theorem zip_len : ∀ (xs ys : List D), (zipD xs ys).length = min xs.length ys.length
  | [], ys => by cases ys <;> simp [zipD]
  | x :: xs, [] => by simp [zipD]
  | x :: xs, y :: ys => by simp only [zipD, List.length_cons, zip_len xs ys]; omega
theorem zip_get : ∀ (xs ys : List D) (i : Nat) (d e : D), xs[i]? = some d → ys[i]? = some e → (zipD xs ys)[i]? = some (.tup [d, e])
  | [], _, _, _, _, h, _ => by simp at h
  | _ :: _, [], _, _, _, _, h => by simp at h
  | x :: xs, y :: ys, 0, d, e, h1, h2 => by simp at h1 h2; subst h1; subst h2; simp [zipD]
  | x :: xs, y :: ys, i + 1, d, e, h1, h2 => by
    simp only [zipD, List.getElem?_cons_succ]
    exact zip_get xs ys i d e (by simpa using h1) (by simpa using h2)
theorem wkd_zip {a b : Addr} {xs ys : List V} {ds es : List D} (h1 : SqL g.K P a xs) (n1 : Dns g P xs ds) (h2 : SqL g.K P b ys) (n2 : Dns g P ys es) : Wkd g (Itz g.K a b) (zipD ds es) P := by
  refine ⟨_, _, walk_zip (xs := xs) (ys := ys) (by rw [zip_len, n1.length, n2.length]), fun H Q s1 s2 => ⟨sqL_mono (s1.trans s2) h1, sqL_mono (s1.trans s2) h2⟩, fun i H Q x H' hi s1 s2 y => ?_⟩
  obtain ⟨T, x1, y1, rfl, hT, rfl, e1, e2⟩ := y
  obtain ⟨d, f1, dn1⟩ := n1.get' e1
  obtain ⟨e, f2, dn2⟩ := n2.get' e2
  obtain ⟨gr, dn⟩ := pair_dn (g := g) s2 hT (dn1.mono s1) (dn2.mono s1)
  exact ⟨_, _, gr, zip_get ds es i d e f1 f2, dn⟩
theorem wkd_zipT {a b : Addr} {xs ys : List V} {ds es : List D} (h1 : SqT g.K P a xs) (n1 : Dns g P xs ds) (h2 : SqT g.K P b ys) (n2 : Dns g P ys es) : Wkd g (RZ.ItzT g.K a b) (zipD ds es) P := by
  refine ⟨_, _, walk_zipT (xs := xs) (ys := ys) (by rw [zip_len, n1.length, n2.length]), fun H Q s1 s2 => ⟨sqT_mono (s1.trans s2) h1, sqT_mono (s1.trans s2) h2⟩, fun i H Q x H' hi s1 s2 y => ?_⟩
  obtain ⟨T, x1, y1, rfl, hT, rfl, e1, e2⟩ := y
  obtain ⟨d, f1, dn1⟩ := n1.get' e1
  obtain ⟨e, f2, dn2⟩ := n2.get' e2
  obtain ⟨gr, dn⟩ := pair_dn (g := g) s2 hT (dn1.mono s1) (dn2.mono s1)
  exact ⟨_, _, gr, zip_get ds es i d e f1 f2, dn⟩
end
end PV
end

section
set_option Elab.async false
set_option linter.all false
set_option maxRecDepth 100000
set_option maxHeartbeats 1000000
/-! PV12: the iterables' rules; comprehensions. -/
namespace PV
open PySem L2 PySem.Spec PyProof.Rows

section
variable {X : Cx} {g : Gx} {W : WX} {cf mk : CF} {a b c e f tg : Expr} {es : List Expr} {ca cb cc : C} {pos p2 : Pos}
theorem back_I : Back (fun (ds : List D) (J : It) (_ : Hp) (P' : Hp) (_ : Hp) (_ : Nat → List Addr) => Wkd g J ds P') := fun _ _ _ _ _ _ _ _ h => h
theorem i_val (hK : X.K = g.K) (he : PE X e (tE g W cf mk ca)) : PI X tg e (tI g W cf mk (.itVal ca)) := by
  refine ⟨fun pins s σ H R I h => ?_⟩
  obtain ⟨env, P, φ, rel, p⟩ := h
  simp only [evI] at p
  have h2 : tE g W cf mk ca σ H fun x H1 => ∃ a, x = .ref a ∧ ((∃ xs, SqL X.K H1 a xs ∧ R (Itl X.K a) H1) ∨ (∃ xs, SqT X.K H1 a xs ∧ R (Itt X.K a) H1)) := by
    refine tE_of_tD ⟨env, P, φ, rel, Post.bind (ρ1 := ρD g) back_I p ?_⟩
    intro d env' v H' P' φ' _ rel' st hd k
    simp only at k
    rw [hK]
    cases d with
    | lst ds =>
      cases hd with
      | @lst a xs _ hs n => exact ⟨a, rfl, .inl ⟨xs, sqL_mono rel'.sub hs, k.ok rel' (wkd_list hs n)⟩⟩
    | tup ds =>
      cases hd with
      | @tup a xs _ hs n => exact ⟨a, rfl, .inr ⟨xs, sqT_mono rel'.sub hs, k.ok rel' (wkd_tup hs n)⟩⟩
    | _ => exact k.elim
  refine thn (he.run pins s σ H _ I h2) fun v s1 ⟨x, H1, I1, r1, q1⟩ => ?_
  obtain ⟨a, ex, q1⟩ := q1
  subst ex
  cases r1
  rcases q1 with ⟨xs, hq, q⟩ | ⟨xs, hq, q⟩
  · obtain ⟨its, rv, p, hz⟩ := I1.list hq
    refine wpAny_pyIter_list p.isList ?_
    refine ⟨s1.heap.objs.size, [s1.heap.objs.size], _, _, H1, rfl, I1.kept (t' := s1.toks) fun b o e => Heap.get?_push_of_some _ e, turn_list a _, ⟨_, Heap.get?_push_size _ rfl, rfl, rfl⟩, fun b hb => ?_, q⟩
    have e : b = s1.heap.objs.size := by simpa using hb
    subst e
    exact I1.fpOk (Nat.le_refl _) (I1.hok.fresh (Nat.le_refl _))
  · obtain ⟨its, rv, p, hz⟩ := I1.tuple hq
    refine wpAny_pyIter_tuple (show s1.heap.IsTuple a its.toArray from p) ?_
    refine ⟨s1.heap.objs.size, [s1.heap.objs.size], _, _, H1, rfl, I1.kept (t' := s1.toks) fun b o e => Heap.get?_push_of_some _ e, turn_tuple a _, ⟨_, Heap.get?_push_size _ rfl, rfl, rfl⟩, fun b hb => ?_, q⟩
    have e : b = s1.heap.objs.size := by simpa using hb
    subst e
    exact I1.fpOk (Nat.le_refl _) (I1.hok.fresh (Nat.le_refl _))
theorem stars1 (h : isStar e = false) : starEach [e] X.env = [(false, eval e X.env)] := star_of X.env h
theorem i_enum {elts : List Expr} {kk : Nat} {tpos p : Pos} (hK : X.K = g.K) (hg : Gl X "enumerate") (hm : X.mg "enumerate" = none) (he : PE X e (tE g W cf mk ca)) (hs : isStar e = false) :
    PI X (.Tuple elts kk tpos) (.Call (.Name "enumerate" p) [e] [] pos) (tI g W cf mk (.itEnum ca)) := by
  refine ⟨fun pins s σ H R I h => ?_⟩
  obtain ⟨env, P, φ, rel, p⟩ := h
  simp only [evI] at p
  have h2 : tE g W cf mk ca σ H fun x H1 => ∃ a, x = .ref a ∧ ((∃ xs, SqL X.K H1 a xs ∧ R (Ite X.K a) H1) ∨ (∃ xs, SqT X.K H1 a xs ∧ R (IteT X.K a) H1)) := by
    refine tE_of_tD ⟨env, P, φ, rel, Post.bind (ρ1 := ρD g) back_I p ?_⟩
    intro d env' v H' P' φ' _ rel' st hd k
    simp only at k
    rw [hK]
    cases d with
    | lst ds =>
      cases hd with
      | @lst a xs _ hs n => exact ⟨a, rfl, .inl ⟨xs, sqL_mono rel'.sub hs, k.ok rel' (wkd_enum hs n)⟩⟩
    | tup ds =>
      cases hd with
      | @tup a xs _ hs n => exact ⟨a, rfl, .inr ⟨xs, sqT_mono rel'.sub hs, k.ok rel' (wkd_enumT hs n)⟩⟩
    | _ => exact k.elim
  have ha : PA X [e] (tCons (tE g W cf mk ca) tNil) := pa_cons he pa_nil (star_of _ hs)
  refine Call_ (ld_blt I hg hm boot_enumerate (PyProof.Rows.callWith_type1 (thn (ha.run pos pins s σ H (fun vs H1 => ∃ a, vs = [V.ref a] ∧ ((∃ xs, SqL X.K H1 a xs ∧ R (Ite X.K a) H1) ∨ (∃ xs, SqT X.K H1 a xs ∧ R (IteT X.K a) H1))) I ?_) fun us s1 ⟨vs, H1, I1, r1, q1⟩ => ?_) (stars1 hs) rfl))
  · exact tE_mono h2 fun v H' ⟨a, ex, q⟩ => ⟨a, by rw [ex], q⟩
  obtain ⟨a, ex, q1⟩ := q1
  subst ex
  cases r1 with
  | cons r rr =>
    cases rr
    cases r
    have fp : ∀ b ∈ [s1.heap.objs.size + 1, s1.heap.objs.size], FpOk X pins H1 b := fun b hb => by
      have e' : b = s1.heap.objs.size + 1 ∨ b = s1.heap.objs.size := by simpa using hb
      have hle : s1.heap.objs.size ≤ b := by
        rcases e' with z | z
        · rw [z]; exact Nat.le_add_right _ _
        · rw [z]; exact Nat.le_refl _
      exact I1.fpOk hle (I1.hok.fresh hle)
    rcases q1 with ⟨xs, hq, q⟩ | ⟨xs, hq, q⟩
    · obtain ⟨its, rv, p', hz⟩ := I1.list hq
      refine call_enumerate_list p'.isList fun h' he hit hsz hk => wpAny_pyIter_enum he ?_
      have I2 : Inv X pins σ H1 { s1 with heap := h' } := I1.kept (t' := s1.toks) hk
      exact ⟨s1.heap.objs.size + 1, [s1.heap.objs.size + 1, s1.heap.objs.size], _, _, H1, rfl, I2, turn_enum a (s1.heap.objs.size + 1) s1.heap.objs.size, ⟨⟨.none, he⟩, hit, Nat.succ_ne_self _⟩, fp, q⟩
    · obtain ⟨its, rv, p', hz⟩ := I1.tuple hq
      have hlt : a < s1.heap.objs.size := by obtain ⟨_, q, _⟩ := id p'; exact Heap.lt_size q
      refine call_enumT (show s1.heap.IsTuple a its.toArray from p') fun h' he hit hk => wpAny_pyIter_enum he ?_
      have I2 : Inv X pins σ H1 { s1 with heap := h' } := I1.kept (t' := s1.toks) hk
      exact ⟨s1.heap.objs.size + 1, [s1.heap.objs.size + 1, s1.heap.objs.size], _, _, H1, rfl, I2, turn_enumT a (s1.heap.objs.size + 1) s1.heap.objs.size, ⟨⟨.none, he⟩, hit, Nat.succ_ne_self _, Nat.ne_of_lt hlt, Nat.ne_of_lt (Nat.lt_succ_of_lt hlt)⟩, fp, q⟩
theorem _root_.L2.PI.imp {X : Cx} {tg e : Expr} {t t' : TI} (h : PI X tg e t') (k : ∀ σ H R, t σ H R → t' σ H R) : PI X tg e t := ⟨fun pins s σ H R I q => h.run pins s σ H R I (k σ H R q)⟩
theorem i_range1 {p : Pos} (hg : Gl X "range") (hm : X.mg "range" = none) (ha : PE X a (tE g W cf mk ca)) (hs : isStar a = false) : PI X tg (.Call (.Name "range" p) [a] [] pos) (tI g W cf mk (.itRange1 ca)) := by
  refine (pi_range1 (ta := tCons (tE g W cf mk ca) tNil) hg hm (pa_cons ha pa_nil (star_of _ hs)) (stars1 hs)).imp fun σ H R ⟨env, P, φ, rel, p⟩ => ?_
  simp only [evI] at p
  refine tE_of_tD ⟨env, P, φ, rel, Post.bind (ρ1 := ρD g) back_I p ?_⟩
  intro d env' v H' P' φ' er rel' st hd k
  simp only at k
  split at k
  · rename_i n
    cases hd
    split at k
    · rename_i hn
      simp only [Bool.and_eq_true, decide_eq_true_eq] at hn
      exact ⟨n, rfl, hn.1, hn.2, k.ok rel' wkd_range⟩
    · exact k.elim
  · exact k.elim
theorem i_range2 {p : Pos} (hg : Gl X "range") (hm : X.mg "range" = none) (ha : PE X a (tE g W cf mk ca)) (hb : PE X b (tE g W cf mk cb)) (hs : isStar a = false) (hs2 : isStar b = false) : PI X tg (.Call (.Name "range" p) [a, b] [] pos) (tI g W cf mk (.itRange2 ca cb)) := by
  refine (pi_range2 (ta := tCons (tE g W cf mk ca) (tCons (tE g W cf mk cb) tNil)) hg hm (pa_cons ha (pa_cons hb pa_nil (star_of _ hs2)) (star_of _ hs)) (by rw [star_of _ hs, stars1 hs2]) (stars1 hs2)).imp fun σ H R ⟨env, P, φ, rel, p⟩ => ?_
  simp only [evI] at p
  refine tE_of_tD ⟨env, P, φ, rel, Post.bind (ρ1 := ρD g) back_I p ?_⟩
  intro d env' v H' P' φ' er rel' st hd k
  refine tE_of_tD ⟨env', P', φ', rel', Post.bind (ρ1 := ρD g) back_I k ?_⟩
  intro d2 env2 v2 H2 P2 φ2 er2 rel2 st2 hd2 k2
  simp only at k2
  split at k2
  ·
    cases hd
    cases hd2
    split at k2
    · rename_i hn
      simp only [Bool.and_eq_true, decide_eq_true_eq] at hn
      exact ⟨_, _, rfl, ⟨hn.1.1.1, hn.1.1.2, hn.1.2, hn.2⟩, k2.ok rel2 wkd_range⟩
    · exact k2.elim
  · exact k2.elim
theorem i_zip {elts : List Expr} {kk : Nat} {tpos p : Pos} (hK : X.K = g.K) (hg : Gl X "zip") (hm : X.mg "zip" = none) (ha : PE X a (tE g W cf mk ca)) (hb : PE X b (tE g W cf mk cb)) (hs : isStar a = false) (hs2 : isStar b = false) :
    PI X (.Tuple elts kk tpos) (.Call (.Name "zip" p) [a, b] [] pos) (tI g W cf mk (.itZip ca cb)) := by
  refine (RZ.pi_zipA (ta := tCons (tE g W cf mk ca) (tCons (tE g W cf mk cb) tNil)) hg hm (pa_cons ha (pa_cons hb pa_nil (star_of _ hs2)) (star_of _ hs)) (star_of _ hs) (any_stars _ [b] (by simp [noStars, hs2]))).imp fun σ H R ⟨env, P, φ, rel, p⟩ => ?_
  simp only [evI] at p
  refine tE_of_tD ⟨env, P, φ, rel, Post.bind (ρ1 := ρD g) back_I p ?_⟩
  intro d env' v H' P' φ' er rel' st hd k
  refine tE_of_tD ⟨env', P', φ', rel', Post.bind (ρ1 := ρD g) back_I k ?_⟩
  intro d2 env2 v2 H2 P2 φ2 er2 rel2 st2 hd2 k2
  simp only at k2
  split at k2
  ·
    cases hd with
    | lst h1 n1 =>
      cases hd2 with
      | lst h2 n2 =>
        refine ⟨_, _, _, _, rfl, .inl ⟨by rw [hK]; exact sqL_mono (st2.pm.trans rel2.sub) h1, by rw [hK]; exact sqL_mono rel2.sub h2, ?_⟩⟩
        rw [hK]
        exact k2.ok rel2 (wkd_zip (sqL_mono st2.pm h1) (n1.mono st2.pm) h2 n2)
  ·
    cases hd with
    | tup h1 n1 =>
      cases hd2 with
      | tup h2 n2 =>
        refine ⟨_, _, _, _, rfl, .inr ⟨by rw [hK]; exact sqT_mono (st2.pm.trans rel2.sub) h1, by rw [hK]; exact sqT_mono rel2.sub h2, ?_⟩⟩
        rw [hK]
        exact k2.ok rel2 (wkd_zipT (sqT_mono st2.pm h1) (n1.mono st2.pm) h2 n2)
  · exact k2.elim
end
end PV
end

section
set_option Elab.async false
set_option linter.all false
set_option maxRecDepth 100000
set_option maxHeartbeats 1000000
/-! PV13: targets; comprehensions. -/
namespace PV
open PySem L2

section
variable {g : Gx} {W : WX} {cf mk : CF} {σ : L2.St} {H P : Hp} {φ : Nat → List Addr} {env : Env}
/-- slot i holds another thing -/
theorem Rel.setV (r : Rel g env σ H P φ) {i : Nat} {w : PV.W} {d : D} {v : V} {fp : List Addr} (o : On g P H v w d fp) (nd : fp.Nodup) (ap : ∀ a ∈ fp, P a = none ∧ ∀ j, a ∉ φ j) :
    Rel g (PV.setV env i w d) (σ.set i (some v)) H P (fun j => if j = i then fp else φ j) := by
  refine ⟨by unfold PV.setV; rw [List.length_set, List.length_set]; exact r.len, fun j w' d' h => ?_, fun j => ?_, fun j k a hj hk => ?_, fun j a hj => ?_, fun j a hj => ?_, r.sub⟩
  · unfold PV.setV at h
    by_cases e : j = i
    · subst e
      have hlt : j < env.length := by
        rcases Nat.lt_or_ge j env.length with h1 | h1
        · exact h1
        · rw [List.getElem?_eq_none (by rw [List.length_set]; exact h1)] at h; cases h
      rw [List.getElem?_set_self hlt] at h
      cases h
      refine ⟨v, List.getElem?_set_self (by rw [r.len]; exact hlt), ?_⟩
      rw [if_pos rfl]
      exact o
    · rw [List.getElem?_set_ne (Ne.symm e)] at h
      obtain ⟨v', e', o'⟩ := r.on j _ _ h
      exact ⟨v', by rw [List.getElem?_set_ne (Ne.symm e)]; exact e', by rw [if_neg e]; exact o'⟩
  · by_cases e : j = i
    · rw [if_pos e]; exact nd
    · rw [if_neg e]; exact r.nd j
  · by_cases e : j = i
    · rw [if_pos e] at hj
      by_cases e' : k = i
      · rw [e, e']
      · rw [if_neg e'] at hk; exact absurd hk ((ap a hj).2 k)
    · rw [if_neg e] at hj
      by_cases e' : k = i
      · rw [if_pos e'] at hk; exact absurd hj ((ap a hk).2 j)
      · rw [if_neg e'] at hk; exact r.dj j k a hj hk
  · by_cases e : j = i
    · rw [if_pos e] at hj; exact (ap a hj).1
    · rw [if_neg e] at hj; exact r.ap j a hj
  · by_cases e : j = i
    · rw [if_pos e] at hj; exact o.there a hj
    · rw [if_neg e] at hj; exact r.tr j a hj
theorem Step.setV {i : Nat} {fp : List Addr} {H0 : Hp} {P0 : Hp} {φ0 : Nat → List Addr} (s : Step H0 P0 φ0 H P φ) (h : ∀ a ∈ fp, (∃ j, a ∈ φ0 j) ∨ H0 a = none) : Step H0 P0 φ0 H P (fun j => if j = i then fp else φ j) :=
  ⟨s.keep, s.there, s.pm, fun j a hj => by
    by_cases e : j = i
    · rw [if_pos e] at hj; exact h a hj
    · rw [if_neg e] at hj; exact s.fr j a hj, s.pn⟩
/-- some slots forgotten -/
def wipeF (φ : Nat → List Addr) (own : List Nat) : Nat → List Addr := fun j => if j ∈ own then [] else φ j
theorem wipeE_length (env : Env) : ∀ own : List Nat, (wipeE env own).length = env.length
  | [] => rfl
  | i :: r => by unfold wipeE; rw [List.length_set, wipeE_length env r]
theorem wipeE_get {env : Env} {j : Nat} {x : PV.W × D} : ∀ {own : List Nat}, (wipeE env own)[j]? = some (some x) → j ∉ own ∧ env[j]? = some (some x)
  | [], h => ⟨by simp, h⟩
  | i :: r, h => by
    unfold wipeE at h
    by_cases e : i = j
    · subst e
      by_cases hv : i < (wipeE env r).length
      · rw [List.getElem?_set_self hv] at h; cases h
      · rw [List.getElem?_eq_none (by simpa using hv)] at h; cases h
    · rw [List.getElem?_set_ne e] at h
      obtain ⟨h1, h2⟩ := wipeE_get h
      exact ⟨by simp only [List.mem_cons, not_or]; exact ⟨fun z => e z.symm, h1⟩, h2⟩
theorem wipe_out {σ : L2.St} {j : Nat} : ∀ {own : List Nat}, j ∉ own → (wipe σ own)[j]? = σ[j]?
  | [], _ => rfl
  | i :: r, h => by
    unfold wipe
    simp only [List.mem_cons, not_or] at h
    rw [List.getElem?_set_ne (fun z => h.1 z.symm)]
    exact wipe_out h.2
theorem wipe_in {σ : L2.St} {j : Nat} : ∀ {own : List Nat}, j ∈ own → j < σ.length → (wipe σ own)[j]? = some none
  | [], h, _ => by simp at h
  | i :: r, h, hl => by
    unfold wipe
    by_cases e : i = j
    · subst e
      exact List.getElem?_set_self (by rw [wipe_length]; exact hl)
    · rw [List.getElem?_set_ne e]
      rcases List.mem_cons.mp h with z | z
      · exact absurd z.symm e
      · exact wipe_in z hl
theorem wipe_eq {σ τ : L2.St} {own : List Nat} (hl : τ.length = σ.length) (h : ∀ j, j ∉ own → τ[j]? = σ[j]?) : wipe τ own = wipe σ own := by
  apply List.ext_getElem?
  intro j
  by_cases e : j ∈ own
  · by_cases hj : j < σ.length
    · rw [wipe_in e (by rw [hl]; exact hj), wipe_in e hj]
    · rw [List.getElem?_eq_none (by rw [wipe_length, hl]; omega), List.getElem?_eq_none (by rw [wipe_length]; omega)]
  · rw [wipe_out e, wipe_out e, h j e]
theorem Rel.wipe (r : Rel g env σ H P φ) (own : List Nat) : Rel g (wipeE env own) (L2.wipe σ own) H P (wipeF φ own) := by
  refine ⟨by rw [wipe_length, wipeE_length]; exact r.len, fun j w d h => ?_, fun j => ?_, fun j k a hj hk => ?_, fun j a hj => ?_, fun j a hj => ?_, r.sub⟩
  · obtain ⟨n, e⟩ := wipeE_get h
    obtain ⟨v, e1, o⟩ := r.on j w d e
    exact ⟨v, by rw [wipe_out n]; exact e1, by unfold wipeF; rw [if_neg n]; exact o⟩
  all_goals unfold wipeF at *
  · split
    · exact List.nodup_nil
    · exact r.nd j
  · split at hj
    · simp at hj
    · split at hk
      · simp at hk
      · exact r.dj j k a hj hk
  · split at hj
    · simp at hj
    · exact r.ap j a hj
  · split at hj
    · simp at hj
    · exact r.tr j a hj
theorem wipeF_sub {a : Addr} {j : Nat} {own : List Nat} (h : a ∈ wipeF φ own j) : a ∈ φ j ∧ j ∉ own := by
  unfold wipeF at h
  split at h
  · simp at h
  · rename_i n; exact ⟨h, n⟩
/-- an object that nobody's slot holds may be written -/
theorem Rel.upd (r : Rel g env σ H P φ) {q : Addr} {o : HO} (hp : P q = none) (hq : ∀ j, q ∉ φ j) : Rel g env σ (upd H q o) P φ := by
  have ne : ∀ i a, a ∈ φ i → a ≠ q := fun i a ha z => hq i (by rw [← z]; exact ha)
  refine ⟨r.len, fun i w d h => ?_, r.nd, r.dj, r.ap, fun i a ha => ?_, fun a u h => ?_⟩
  · obtain ⟨v, e1, o⟩ := r.on i w d h
    exact ⟨v, e1, o.frame (Sub.refl _) fun a ha u hu => by rw [upd_ne (ne i a ha)]; exact hu⟩
  · rw [upd_ne (ne i a ha)]; exact r.tr i a ha
  · rw [upd_ne (fun z => by rw [z, hp] at h; cases h)]; exact r.sub a u h
/-- .. and a held thing beside the slots' -/
def plus (D : Addr) (φ : Nat → List Addr) : Nat → List Addr
  | 0 => [D]
  | j + 1 => φ j
theorem plus_not {D a : Addr} (h : ∀ i, a ∉ plus D φ i) : a ≠ D ∧ ∀ i, a ∉ φ i := ⟨fun z => h 0 (by rw [z]; exact List.mem_cons_self), fun i => h (i + 1)⟩
theorem plus_in {D a : Addr} {i : Nat} (h : a ∈ plus D φ i) : a = D ∨ ∃ j, a ∈ φ j := by
  cases i with
  | zero => exact .inl (by simpa [plus] using h)
  | succ j => exact .inr ⟨j, h⟩
theorem Step.plus {D : Addr} {H' P' : Hp} {φ' : Nat → List Addr} (s : Step H P φ H' P' φ') : Step H P (plus D φ) H' P' (plus D φ') :=
  ⟨fun a o h n => s.keep a o h (plus_not n).2, s.there, s.pm, fun i a h => by
    rcases plus_in h with rfl | ⟨j, h⟩
    · exact .inl ⟨0, List.mem_cons_self⟩
    · exact (s.fr j a h).imp (fun ⟨k, z⟩ => ⟨k + 1, z⟩) id, fun a h => (s.pn a h).imp id fun z => z.imp (fun ⟨k, z⟩ => ⟨k + 1, z⟩) id⟩
theorem Step.app {D : Addr} {o : HO} (h : H D ≠ none) : Step H P (PV.plus D φ) (L2.upd H D o) P (PV.plus D φ) :=
  ⟨fun a u e n => by rw [upd_ne (plus_not n).1]; exact e, fun a e => by
    by_cases z : a = D
    · subst z; rw [upd_same]; simp
    · rw [upd_ne z]; exact e, Sub.refl P, fun i a h => .inl ⟨i, h⟩, fun a h => .inl h⟩
theorem Step.to {φ' φ'' : Nat → List Addr} {H' P' : Hp} (s : Step H P φ H' P' φ') (h : ∀ i a, a ∈ φ'' i → ∃ j, a ∈ φ' j) : Step H P φ H' P' φ'' :=
  ⟨s.keep, s.there, s.pm, fun i a hi => let ⟨j, hj⟩ := h i a hi; s.fr j a hj, s.pn⟩
end

theorem backE_length (env0 env : Env) : ∀ own : List Nat, (backE env0 env own).length = env.length
  | [] => rfl
  | i :: r => by unfold backE; rw [List.length_set, backE_length env0 env r]
theorem backE_out {env0 env : Env} {j : Nat} : ∀ {own : List Nat}, j ∉ own → (backE env0 env own)[j]? = env[j]?
  | [], _ => rfl
  | i :: r, h => by
    unfold backE
    simp only [List.mem_cons, not_or] at h
    rw [List.getElem?_set_ne (fun z => h.1 z.symm)]
    exact backE_out h.2
theorem backE_in {env0 env : Env} {j : Nat} {x : PV.W × D} : ∀ {own : List Nat}, j ∈ own → (backE env0 env own)[j]? = some (some x) → env0[j]? = some (some x)
  | [], h, _ => by simp at h
  | i :: r, h, e => by
    unfold backE at e
    by_cases z : i = j
    · subst z
      by_cases hl : i < (backE env0 env r).length
      · rw [List.getElem?_set_self hl] at e
        cases q : env0[i]? with
        | none => rw [q] at e; cases e
        | some y => rw [q] at e; simpa using e
      · rw [List.getElem?_eq_none (by rw [List.length_set]; omega)] at e; cases e
    · rw [List.getElem?_set_ne z] at e
      rcases List.mem_cons.mp h with y | y
      · exact absurd y.symm z
      · exact backE_in y e

/-! ### targets -/
mutual
/-- the slots of a target -/
def tgs : C → List Nat
  | .tgName i => [i]
  | .tgTup ts => tgss ts
  | _ => []
def tgss : C → List Nat
  | .cons t ts => tgs t ++ tgss ts
  | _ => []
end
def tG (g : Gx) (tg : C) : TG := fun v σ H Q => ∃ env P φ d env', Rel g env σ H P φ ∧ Dn g P v d ∧ bindT tg d env = some env' ∧
  ∀ σ' φ', Rel g env' σ' H P φ' → (∀ i a, a ∈ φ' i → ∃ j, a ∈ φ j) → (∀ j, j ∉ tgs tg → σ'[j]? = σ[j]?) → Q σ' H
def tGs (g : Gx) (ts : C) : TGs := fun vs σ H Q => ∃ env P φ ds env', Rel g env σ H P φ ∧ Dns g P vs ds ∧ bindTs ts ds env = some env' ∧
  ∀ σ' φ', Rel g env' σ' H P φ' → (∀ i a, a ∈ φ' i → ∃ j, a ∈ φ j) → (∀ j, j ∉ tgss ts → σ'[j]? = σ[j]?) → Q σ' H
theorem _root_.L2.PG.imp {X : Cx} {e : Expr} {t t' : TG} (h : PG X e t') (k : ∀ v σ H Q, t v σ H Q → t' v σ H Q) : PG X e t := ⟨fun pins s σ H v u Q I r q => h.run pins s σ H v u Q I r (k v σ H Q q)⟩
theorem _root_.L2.PGs.imp {X : Cx} {es : List Expr} {t t' : TGs} (h : PGs X es t') (k : ∀ v σ H Q, t v σ H Q → t' v σ H Q) : PGs X es t := ⟨fun pins s σ H v u Q I r q => h.run pins s σ H v u Q I r (k v σ H Q q)⟩
section
variable {X : Cx} {g : Gx} {pos : Pos}
theorem g_name {i : Nat} {x : Str} (hN : X.N.Nodup) (hi : X.N[i]? = some x) (hx : Loc X.env.scope x) (hf : X.fn x = true ∨ X.env.scope.names.lookup x = some .local) : PG X (.Name x pos) (tG g (.tgName i)) := by
  refine (pg_name hN hi hx hf).imp fun v σ H Q ⟨env, P, φ, d, env', rel, dn, e, k⟩ => ?_
  simp only [bindT, Option.some.injEq] at e
  subst e
  refine k _ _ (rel.setV (.frz dn) List.nodup_nil fun a ha => by simp at ha) (fun j a hj => ?_) fun j hj => ?_
  · by_cases z : j = i
    · rw [if_pos z] at hj; simp at hj
    · rw [if_neg z] at hj; exact ⟨j, hj⟩
  · simp only [tgs, List.mem_singleton] at hj
    exact List.getElem?_set_ne (fun z => hj z.symm)
theorem gs_nil : PGs X [] (tGs g .nil) := by
  refine pgs_nil.imp fun vs σ H Q ⟨env, P, φ, ds, env', rel, dn, e, k⟩ => ?_
  cases ds with
  | nil =>
    cases dn
    simp only [bindTs, Option.some.injEq] at e
    subst e
    exact ⟨rfl, k σ φ rel (fun i a h => ⟨i, h⟩) fun _ _ => rfl⟩
  | cons => simp [bindTs] at e
theorem gs_cons {e : Expr} {es : List Expr} {t ts : C} (h1 : PG X e (tG g t)) (h2 : PGs X es (tGs g ts)) (hs : (assignEach (e :: es) X.env).map (·.2) = assign e X.env :: (assignEach es X.env).map (·.2)) : PGs X (e :: es) (tGs g (.cons t ts)) := by
  refine (pgs_cons h1 h2 hs).imp fun vs σ H Q ⟨env, P, φ, ds, env', rel, dn, e, k⟩ => ?_
  cases dn with
  | nil => simp [bindTs] at e
  | @cons v vr d dr h1 h2 =>
    simp only [bindTs] at e
    obtain ⟨env1, e1, e2⟩ := Option.bind_eq_some_iff.mp e
    refine ⟨v, vr, rfl, env, P, φ, d, env1, rel, h1, e1, fun σ1 φ1 rel1 f1 s1 => ⟨env1, P, φ1, dr, env', rel1, h2, e2, fun σ2 φ2 rel2 f2 s2 => k σ2 φ2 rel2 (fun i a h => ?_) fun j hj => ?_⟩⟩
    · obtain ⟨j, hj⟩ := f2 i a h
      exact f1 j a hj
    · simp only [tgss, List.mem_append, not_or] at hj
      rw [s2 j hj.2, s1 j hj.1]
mutual
theorem bindT_len : ∀ (t : C) (d : D) (env env' : Env), bindT t d env = some env' → env'.length = env.length
  | .tgName i, d, env, env', h => by
    simp only [bindT, Option.some.injEq] at h
    subst h
    unfold PV.setV
    rw [List.length_set]
  | .tgTup ts, d, env, env', h => by
    cases d with
    | tup ds => simp only [bindT] at h; exact bindTs_len ts ds env env' h
    | _ => simp [bindT] at h
  | .var .., _, _, _, h => by simp [bindT] at h
  | .brw .., _, _, _, h => by simp [bindT] at h
  | .io .., _, _, _, h => by simp [bindT] at h
  | .lit .., _, _, _, h => by simp [bindT] at h
  | .prim .., _, _, _, h => by simp [bindT] at h
  | .sl .., _, _, _, h => by simp [bindT] at h
  | .and .., _, _, _, h => by simp [bindT] at h
  | .or .., _, _, _, h => by simp [bindT] at h
  | .ite .., _, _, _, h => by simp [bindT] at h
  | .chain .., _, _, _, h => by simp [bindT] at h
  | .tup .., _, _, _, h => by simp [bindT] at h
  | .lst .., _, _, _, h => by simp [bindT] at h
  | .dct .., _, _, _, h => by simp [bindT] at h
  | .get .., _, _, _, h => by simp [bindT] at h
  | .call .., _, _, _, h => by simp [bindT] at h
  | .callM .., _, _, _, h => by simp [bindT] at h
  | .callK .., _, _, _, h => by simp [bindT] at h
  | .make .., _, _, _, h => by simp [bindT] at h
  | .comp .., _, _, _, h => by simp [bindT] at h
  | .pop .., _, _, _, h => by simp [bindT] at h
  | .popAt .., _, _, _, h => by simp [bindT] at h
  | .nil, _, _, _, h => by simp [bindT] at h
  | .cons .., _, _, _, h => by simp [bindT] at h
  | .itVal .., _, _, _, h => by simp [bindT] at h
  | .itRange1 .., _, _, _, h => by simp [bindT] at h
  | .itRange2 .., _, _, _, h => by simp [bindT] at h
  | .itEnum .., _, _, _, h => by simp [bindT] at h
  | .itZip .., _, _, _, h => by simp [bindT] at h
  | .stuck, _, _, _, h => by simp [bindT] at h
theorem bindTs_len : ∀ (ts : C) (ds : List D) (env env' : Env), bindTs ts ds env = some env' → env'.length = env.length
  | .cons t r, ds, env, env', h => by
    cases ds with
    | nil => simp [bindTs] at h
    | cons d ds =>
      simp only [bindTs] at h
      obtain ⟨e1, h1, h2⟩ := Option.bind_eq_some_iff.mp h
      rw [bindTs_len r ds e1 env' h2, bindT_len t d env e1 h1]
  | .nil, ds, env, env', h => by
    cases ds with
    | nil => simp only [bindTs, Option.some.injEq] at h; rw [h]
    | cons => simp [bindTs] at h
  | .tgName .., _, _, _, h => by simp [bindTs] at h
  | .tgTup .., _, _, _, h => by simp [bindTs] at h
  | .var .., _, _, _, h => by simp [bindTs] at h
  | .brw .., _, _, _, h => by simp [bindTs] at h
  | .io .., _, _, _, h => by simp [bindTs] at h
  | .lit .., _, _, _, h => by simp [bindTs] at h
  | .prim .., _, _, _, h => by simp [bindTs] at h
  | .sl .., _, _, _, h => by simp [bindTs] at h
  | .and .., _, _, _, h => by simp [bindTs] at h
  | .or .., _, _, _, h => by simp [bindTs] at h
  | .ite .., _, _, _, h => by simp [bindTs] at h
  | .chain .., _, _, _, h => by simp [bindTs] at h
  | .tup .., _, _, _, h => by simp [bindTs] at h
  | .lst .., _, _, _, h => by simp [bindTs] at h
  | .dct .., _, _, _, h => by simp [bindTs] at h
  | .get .., _, _, _, h => by simp [bindTs] at h
  | .call .., _, _, _, h => by simp [bindTs] at h
  | .callM .., _, _, _, h => by simp [bindTs] at h
  | .callK .., _, _, _, h => by simp [bindTs] at h
  | .make .., _, _, _, h => by simp [bindTs] at h
  | .comp .., _, _, _, h => by simp [bindTs] at h
  | .pop .., _, _, _, h => by simp [bindTs] at h
  | .popAt .., _, _, _, h => by simp [bindTs] at h
  | .itVal .., _, _, _, h => by simp [bindTs] at h
  | .itRange1 .., _, _, _, h => by simp [bindTs] at h
  | .itRange2 .., _, _, _, h => by simp [bindTs] at h
  | .itEnum .., _, _, _, h => by simp [bindTs] at h
  | .itZip .., _, _, _, h => by simp [bindTs] at h
  | .stuck, _, _, _, h => by simp [bindTs] at h
end
def C.len : C → Nat
  | .cons _ r => r.len + 1
  | _ => 0
theorem bindTs_length : ∀ {ts : C} {ds : List D} {env env' : Env}, bindTs ts ds env = some env' → ds.length = ts.len := by
  intro ts
  induction ts with
  | cons t ts _ ih =>
    intro ds env env' h
    cases ds with
    | nil => simp [bindTs] at h
    | cons d ds =>
      simp only [bindTs] at h
      obtain ⟨_, _, e2⟩ := Option.bind_eq_some_iff.mp h
      simp only [C.len, List.length_cons, ih e2]
  | nil =>
    intro ds env env' h
    cases ds with
    | nil => rfl
    | cons => simp [bindTs] at h
  | _ => intro ds env env' h; simp [bindTs] at h
theorem g_tup {es : List Expr} {k n : Nat} {ts : C} (hK : X.K = g.K) (hc : X.calm = true) (h : PGs X es (tGs g ts)) (hn : (assignEach es X.env).length = n) (hl : ts.len = n) (hst : (assignEach es X.env).findIdx? (·.1) = none) : PG X (.Tuple es k pos) (tG g (.tgTup ts)) := by
  refine (pg_tup hc h hn hst).imp fun v σ H Q ⟨env, P, φ, d, env', rel, dn, e, k⟩ => ?_
  cases d with
  | tup ds =>
    simp only [bindT] at e
    cases dn with
    | @tup a xs _ hs n' =>
      refine ⟨a, xs, rfl, by rw [hK]; exact sqT_mono rel.sub hs, by rw [n'.length, bindTs_length e, hl], env, P, φ, ds, env', rel, n', e, fun σ' φ' r' f s => k σ' φ' r' f s⟩
  | _ => simp [bindT] at e
end

/-! ### comprehensions -/
theorem _root_.L2.PTs.imp {X : Cx} {es : List Expr} {t t' : TT} (h : PTs X es t') (k : ∀ σ H Q, t σ H Q → t' σ H Q) : PTs X es t := ⟨fun pins s σ H Q I q => h.run pins s σ H Q I (k σ H Q q)⟩
section
variable {X : Cx} {g : Gx} {W : WX} {cf mk : CF} {e tg iter elt : Expr} {ifs : List Expr} {ci cc ce ctg : C} {pos : Pos} {σ : L2.St} {H : Hp}
theorem ts_nil : PTs X [] (tT g W cf mk (.lit (.bl true))) := by
  refine pts_nil.imp fun σ H Q ⟨env, P, φ, rel, p⟩ => ?_
  simp only [evE] at p
  obtain ⟨k, e, q⟩ := p.ok (b := .bl true) rel ρD_bl
  cases e
  exact q
theorem ts_one (h : PT X e (tT g W cf mk cc)) : PTs X [e] (tT g W cf mk cc) := pts_one h
/-- the wish within a block: nothing is raised there -/
abbrev W0 : WX := fun _ _ _ _ => False
theorem bind_ok {ε α β : Type} {r : R ε α} {f : α → R ε β} {b : β} (h : r.bind f = .ok b) : ∃ a, r = .ok a ∧ f a = .ok b := by
  cases r with
  | ok a => exact ⟨a, rfl, h⟩
  | exc x e => cases h
  | stuck => cases h
theorem of_ok {ε α : Type} {o : Option α} {a : α} (h : (R.of o : R ε α) = .ok a) : o = some a := by
  cases o with
  | none => cases h
  | some b => cases h; rfl
theorem Post.get {α β : Type} {P : Hp} {φ : Nat → List Addr} {ρ : α → β → Hp → Hp → Hp → (Nat → List Addr) → Prop} {a : α} {env : Env} {Q : β → Hp → Prop}
    (h : ∀ b H' P' φ', Rel g env σ H' P' φ' → Step H P φ H' P' φ' → ρ a b H P' H' φ' → Q b H') : Post g W σ H P φ ρ (.ok (a, env)) Q := h
theorem comp_imp {own : List Nat} {Q : VK} (ht : ∀ j ∈ tgs ctg, j ∈ own) (h : tE g W cf mk (.comp ctg ci cc ce own) σ H Q) : tLc (tI g W cf mk ci) (tG g ctg) (tT g W0 cf mk cc) (tE g W0 cf mk ce) own σ H Q := by
  obtain ⟨env, P, φ, rel, p⟩ := h
  simp only [evE] at p
  refine ⟨env, P, φ, rel, Post.bind back_W p ?_⟩
  intro ds env1 J H1 P1 φ1 _ rel1 st1 wk p
  simp only at p
  cases ec : compL (compT (evE cf mk cc) (evE cf mk ce) ctg own) ds (wipeE env1 own) [] with
  | exc x e' =>
    rw [ec] at p
    exact p.elim
  | stuck =>
    rw [ec] at p
    exact p.elim
  | ok fin =>
    rw [ec] at p
    obtain ⟨l, eF⟩ := fin
    have p : Post g W σ H1 P1 φ1 (ρW g (freshW (.comp ctg ci cc ce own))) (.ok (.lst l, backE env1 eF own)) Q := p
    intro D hD
    obtain ⟨G, Y, w, hG, hY⟩ := wk
    have own1 := own_new rel1 hD
    have gr0 := Grow.own rel1.sub hD (.lst [])
    have r0 := (rel1.grow gr0).wipe own
    have nw : ∀ j, D ∉ wipeF φ1 own j := fun j hj => own1.2 j (wipeF_sub hj).1
    refine lc_it w (fun i H2 => ∃ e P2 φ2 accV accD, Rel g e (L2.wipe σ own) H2 P2 φ2 ∧ Step (upd H1 D (.lst [])) P1 (plus D (wipeF φ1 own)) H2 P2 (plus D φ2) ∧ H2 D = some (.lst accV) ∧ P2 D = none ∧ (∀ j, D ∉ φ2 j) ∧ Dns g P2 accV accD ∧ compL (compT (evE cf mk cc) (evE cf mk ce) ctg own) (ds.drop i) e accD = .ok (l, eF)) ?_ ?_ ?_ ?_
    · exact ⟨_, P1, _, [], [], r0, Step.refl, upd_same, own1.1, nw, .nil, ec⟩
    · rintro i H2 hi ⟨e, P2, φ2, accV, accD, r2, s2, hH, hP, hn, _, _⟩
      exact hG H2 P2 s2.pm r2.sub
    · rintro i x H2 H3 hi ⟨e, P2, φ2, accV, accD, r2, s2, hH, hP, hn, hacc, hrun⟩ y
      obtain ⟨P3, d, gr, hd, dn⟩ := hY i H2 P2 x H3 hi s2.pm r2.sub y
      have r3 := r2.grow gr
      have st3 : Step H2 P2 φ2 H3 P3 φ2 := gr.step
      have edrop : ds.drop i = d :: ds.drop (i + 1) := by
        obtain ⟨hlt, e1⟩ := List.getElem?_eq_some_iff.mp hd
        rw [List.drop_eq_getElem_cons hlt, e1]
      rw [edrop] at hrun
      unfold compL at hrun
      obtain ⟨⟨ox, e9⟩, h1, h2⟩ := bind_ok hrun
      unfold compT at h1
      obtain ⟨e4, hb, h1⟩ := bind_ok h1
      have hb := of_ok hb
      obtain ⟨⟨td, e5⟩, hc, h1⟩ := bind_ok h1
      simp only at h1 h2
      refine ⟨e, P3, φ2, d, e4, r3, dn, hb, fun σ4 φ4 r4 f4 s4 => ?_⟩
      have hw : L2.wipe σ4 own = L2.wipe σ own := by
        have h0 : L2.wipe σ4 own = L2.wipe (L2.wipe σ own) own := wipe_eq (by rw [r4.len, bindT_len _ _ _ _ hb, r3.len]) fun j hj => s4 j fun z => hj (ht j z)
        rw [h0]
        exact wipe_eq (wipe_length _ _) fun j hj => wipe_out hj
      refine ⟨hw, ?_⟩
      have st4 : Step H3 P3 φ2 H3 P3 φ4 := Step.refl.to f4
      refine ⟨e4, P3, φ4, r4, ?_⟩
      rw [hc]
      refine Post.get fun b H5 P5 φ5 r5 st5 hv => ?_
      have st25 : Step H2 P2 φ2 H5 P5 φ5 := (st3.trans st4).trans st5
      have hH5 : H5 D = some (.lst accV) := st25.keep D _ hH hn
      have hP5 : P5 D = none := by
        cases z : P5 D with
        | none => rfl
        | some o =>
          rcases st25.pn D (by rw [z]; simp) with y | ⟨j, y⟩ | y
          · exact absurd hP y
          · exact absurd y (hn j)
          · rw [hH] at y; cases y
      have hn5 : ∀ j, D ∉ φ5 j := fun j hj => by
        rcases st25.fr j D hj with ⟨k, y⟩ | y
        · exact hn k y
        · rw [hH] at y; cases y
      have fin : ∀ {e6 : Env} {H6 P6 : Hp} {φ6 : Nat → List Addr}, Rel g e6 σ4 H6 P6 φ6 → Step H2 P2 φ2 H6 P6 φ6 → Rel g (wipeE e6 own) (L2.wipe σ own) H6 P6 (wipeF φ6 own) ∧ Step (upd H1 D (.lst [])) P1 (plus D (wipeF φ1 own)) H6 P6 (plus D (wipeF φ6 own)) := fun {e6 H6 P6 φ6} r6 s6 => by
        refine ⟨by rw [← hw]; exact r6.wipe own, (s2.trans s6.plus).to fun j a hj => ?_⟩
        rcases plus_in hj with rfl | ⟨k, hk⟩
        · exact ⟨0, List.mem_cons_self⟩
        · exact ⟨k + 1, (wipeF_sub hk).1⟩
      split at h1
      · have hb := bl_of hv
        refine ⟨true, hb, ?_⟩
        show ite (true = true) _ _
        rw [if_pos rfl]
        obtain ⟨⟨xd, e6⟩, he, h1⟩ := bind_ok h1
        cases h1
        simp only at h2
        split at h2
        · rename_i hlen
          refine tE_of_tD ⟨e5, P5, φ5, r5, ?_⟩
          rw [he]
          refine Post.get fun z H6 P6 φ6 r6 st6 dz => ?_
          have st26 := st25.trans st6
          have hH6 : H6 D = some (.lst accV) := st26.keep D _ hH hn
          have hP6 : P6 D = none := by
            cases z : P6 D with
            | none => rfl
            | some o =>
              rcases st26.pn D (by rw [z]; simp) with y | ⟨j, y⟩ | y
              · exact absurd hP y
              · exact absurd y (hn j)
              · rw [hH] at y; cases y
          have hn6 : ∀ j, D ∉ φ6 j := fun j hj => by
            rcases st26.fr j D hj with ⟨k, y⟩ | y
            · exact hn k y
            · rw [hH] at y; cases y
          obtain ⟨rw6, sw6⟩ := fin r6 st26
          have hacc6 := hacc.mono st26.pm
          have nw6 : ∀ j, D ∉ wipeF φ6 own j := fun j hj => hn6 j (wipeF_sub hj).1
          refine ⟨accV, hH6, by rw [hacc.length, ← lim_eq]; exact hlen, _, P6, _, accV ++ [z], accD ++ [xd], rw6.upd hP6 nw6, sw6.trans (Step.app (by rw [hH6]; simp)), upd_same, hP6, nw6, hacc6.append (.cons dz .nil), h2⟩
        · cases h2
      · have hb := bl_of hv
        refine ⟨false, hb, ?_⟩
        show ite (false = true) _ _
        rw [if_neg Bool.false_ne_true]
        cases h1
        simp only at h2
        obtain ⟨rw5, sw5⟩ := fin r5 st25
        exact ⟨_, P5, _, accV, accD, rw5, sw5, hH5, hP5, fun j hj => hn5 j (wipeF_sub hj).1, hacc.mono st25.pm, h2⟩
      · cases h1
    · rintro H2 ⟨e, P2, φ2, accV, accD, r2, s2, hH, hP, hn, hacc, hrun⟩
      rw [List.drop_length] at hrun
      cases hrun
      have old : ∀ i a, i ∈ own → a ∈ φ1 i → a ≠ D ∧ (∀ j, a ∉ wipeF φ1 own j) ∧ H1 a ≠ none := fun i a hi ha => by
        refine ⟨fun z => own1.2 i (by rw [← z]; exact ha), fun j hj => ?_, rel1.tr i a ha⟩
        obtain ⟨h1, h2⟩ := wipeF_sub hj
        exact h2 (by rw [← rel1.dj i j a ha h1]; exact hi)
      have oldN : ∀ i a, i ∈ own → a ∈ φ1 i → ∀ j, a ∉ plus D (wipeF φ1 own) j := fun i a hi ha j hj => by
        obtain ⟨h1, h2, _⟩ := old i a hi ha
        rcases plus_in hj with z | ⟨k, hk⟩
        · exact h1 z
        · exact h2 k hk
      have up : ∀ a, a ≠ D → (upd H1 D (.lst [])) a = H1 a := fun a h => upd_ne h
      have new2 : ∀ j a, a ∈ φ2 j → (∃ k, a ∈ wipeF φ1 own k) ∨ H1 a = none := fun j a ha => by
        rcases s2.fr (j + 1) a ha with ⟨k, hk⟩ | z
        · rcases plus_in hk with rfl | z
          · exact .inr hD
          · exact .inl z
        · by_cases e : a = D
          · subst e; exact .inr hD
          · rw [up a e] at z; exact .inr z
      refine p (.ref D) H2 P2 (fun j => if j ∈ own then φ1 j else φ2 j) ⟨?_, fun i w d h => ?_, fun i => ?_, fun i j a hi hj => ?_, fun i a hi => ?_, fun i a hi => ?_, r2.sub⟩ ⟨fun a o h n => ?_, fun a h => ?_, s2.pm, fun i a hi => ?_, fun a h => ?_⟩ ⟨[D], .lst hH (.of_frz hacc), by simp, fun a ha => ?_⟩
      · rw [backE_length, ← r2.len, wipe_length]
      · by_cases hi : i ∈ own
        · rw [if_pos hi]
          have h' := backE_in hi h
          obtain ⟨v, e1, o⟩ := rel1.on i w d h'
          refine ⟨v, e1, o.frame s2.pm fun a ha u hu => ?_⟩
          exact s2.keep a u (by rw [up a (old i a hi ha).1]; exact hu) (oldN i a hi ha)
        · rw [if_neg hi]
          rw [backE_out hi] at h
          obtain ⟨v, e1, o⟩ := r2.on i w d h
          exact ⟨v, by rw [wipe_out hi] at e1; exact e1, o⟩
      · by_cases hi : i ∈ own
        · rw [if_pos hi]; exact rel1.nd i
        · rw [if_neg hi]; exact r2.nd i
      · by_cases h1 : i ∈ own
        · rw [if_pos h1] at hi
          by_cases h2 : j ∈ own
          · rw [if_pos h2] at hj; exact rel1.dj i j a hi hj
          · rw [if_neg h2] at hj
            rcases new2 j a hj with ⟨k, hk⟩ | z
            · exact absurd hk ((old i a h1 hi).2.1 k)
            · exact absurd z (old i a h1 hi).2.2
        · rw [if_neg h1] at hi
          by_cases h2 : j ∈ own
          · rw [if_pos h2] at hj
            rcases new2 i a hi with ⟨k, hk⟩ | z
            · exact absurd hk ((old j a h2 hj).2.1 k)
            · exact absurd z (old j a h2 hj).2.2
          · rw [if_neg h2] at hj; exact r2.dj i j a hi hj
      · by_cases h1 : i ∈ own
        · rw [if_pos h1] at hi
          cases z : P2 a with
          | none => rfl
          | some o =>
            rcases s2.pn a (by rw [z]; simp) with y | ⟨k, y⟩ | y
            · exact absurd (rel1.ap i a hi) y
            · exact absurd y (oldN i a h1 hi k)
            · rw [up a (old i a h1 hi).1] at y; exact absurd y (old i a h1 hi).2.2
        · rw [if_neg h1] at hi; exact r2.ap i a hi
      · by_cases h1 : i ∈ own
        · rw [if_pos h1] at hi
          exact s2.there a (by rw [up a (old i a h1 hi).1]; exact (old i a h1 hi).2.2)
        · rw [if_neg h1] at hi; exact r2.tr i a hi
      · have ne : a ≠ D := fun z => by rw [z, hD] at h; cases h
        exact s2.keep a o (by rw [up a ne]; exact h) fun j hj => by
          rcases plus_in hj with z | ⟨k, hk⟩
          · exact ne z
          · exact n k (wipeF_sub hk).1
      · have ne : a ≠ D := fun z => by rw [z, hD] at h; exact h rfl
        exact s2.there a (by rw [up a ne]; exact h)
      · by_cases h1 : i ∈ own
        · rw [if_pos h1] at hi; exact .inl ⟨i, hi⟩
        · rw [if_neg h1] at hi
          rcases new2 i a hi with ⟨k, hk⟩ | z
          · exact .inl ⟨k, (wipeF_sub hk).1⟩
          · exact .inr z
      · rcases s2.pn a h with y | ⟨k, y⟩ | y
        · exact .inl y
        · rcases plus_in y with rfl | ⟨k, y⟩
          · exact .inr (.inr hD)
          · exact .inr (.inl ⟨k, (wipeF_sub y).1⟩)
        · by_cases e : a = D
          · subst e; exact .inr (.inr hD)
          · rw [up a e] at y; exact .inr (.inr y)
      · have ea : a = D := by simpa using ha
        subst ea
        refine ⟨hD, hP, fun j hj => ?_⟩
        have hj : a ∈ (if j ∈ own then φ1 j else φ2 j) := hj
        by_cases h1 : j ∈ own
        · rw [if_pos h1] at hj; exact own1.2 j hj
        · rw [if_neg h1] at hj; exact hn j hj
theorem e_comp {scope : Scope} {own : List (Str × Nat)} (hc : X.calm = true) (hN : X.N.Nodup) (hi : PI X tg iter (tI g W cf mk ci)) (ok : BlkOk X.N X.env.scope scope own)
    (hg : ∀ (s : Shared) (H : Hp) (C : Addr) (cl : List (Str × Addr)) (fp : List Addr), PG (X.blk s H scope (compEnvC scope cl C X.env) fp) tg (tG g ctg)) (ht : ∀ (s : Shared) (H : Hp) (C : Addr) (cl : List (Str × Addr)) (fp : List Addr), PTs (X.blk s H scope (compEnvC scope cl C X.env) fp) ifs (tT g W0 cf mk cc))
    (he : ∀ (s : Shared) (H : Hp) (C : Addr) (cl : List (Str × Addr)) (fp : List Addr), PE (X.blk s H scope (compEnvC scope cl C X.env) fp) elt (tE g W0 cf mk ce)) (hs : ∀ x, foldedSetIterable iter X.env x = pure x) (hown : ∀ j ∈ tgs ctg, j ∈ own.map (·.2)) :
    PE X (.ListComp elt [⟨tg, iter, ifs, 0⟩] scope pos) (tE g W cf mk (.comp ctg ci cc ce (own.map (·.2)))) := (pe_lc hc hN hi ok hg ht he hs).imp fun _ _ _ h => comp_imp hown h
theorem tLc_asg {i : Nat} {own : List Nat} (hown : ∀ j ∈ tgs ctg, j ∈ own) {D : Ends} (h : tAsg (tE g W cf mk (.comp ctg ci cc ce own)) (gName i) D σ H) : tAsg (tLc (tI g W cf mk ci) (tG g ctg) (tT g W0 cf mk cc) (tE g W0 cf mk ce) own) (gName i) D σ H := comp_imp hown h
theorem s_setLc {i : Nat} {y : Str} {py spos : Pos} {scope : Scope} {own : List (Str × Nat)} (hc : X.calm = true) (hN : X.N.Nodup) (hy : X.N[i]? = some y) (hyl : X.env.scope.names.lookup y = some .local)
    (hsw : swapsWith (.ListComp elt [⟨tg, iter, ifs, 0⟩] scope pos) (some (.Name y py)) spos.line X.env = pure true) (hi : PI X tg iter (tI g W cf mk ci)) (ok : BlkOk X.N X.env.scope scope own)
    (hg : ∀ (s : Shared) (H : Hp) (C : Addr) (cl : List (Str × Addr)) (fp : List Addr), PG (X.blk s H scope (compEnvC scope cl C X.env) fp) tg (tG g ctg)) (ht : ∀ (s : Shared) (H : Hp) (C : Addr) (cl : List (Str × Addr)) (fp : List Addr), PTs (X.blk s H scope (compEnvC scope cl C X.env) fp) ifs (tT g W0 cf mk cc))
    (he : ∀ (s : Shared) (H : Hp) (C : Addr) (cl : List (Str × Addr)) (fp : List Addr), PE (X.blk s H scope (compEnvC scope cl C X.env) fp) elt (tE g W0 cf mk ce)) (hs : ∀ x, foldedSetIterable iter X.env x = pure x) (hown : ∀ j ∈ tgs ctg, j ∈ own.map (·.2)) :
    PS X (.Assign [.Name y py] (.ListComp elt [⟨tg, iter, ifs, 0⟩] scope pos) spos) (tAsg (tE g W cf mk (.comp ctg ci cc ce (own.map (·.2)))) (gName i)) :=
  (ps_setLc hc hN hy hyl hsw hi ok hg ht he hs).imp fun _ _ _ h => tLc_asg hown h
end
end PV
end

section
set_option Elab.async false
set_option linter.all false
set_option maxRecDepth 100000
set_option maxHeartbeats 1000000
/-! PV14: more expressions: pop, get, keywords, texts of data, isinstance. -/
namespace PV
open PySem L2 PySem.Spec PyProof.Rows

section
variable {g : Gx} {W : WX} {cf mk : CF} {σ : L2.St} {H P : Hp} {φ : Nat → List Addr} {env : Env}
/-- the thing that slot i holds is written -/
theorem Rel.write (r : Rel g env σ H P φ) {i : Nat} {w : PV.W} {d : D} {v : V} {a : Addr} {o : HO} (hv : σ[i]? = some (some v)) (ha : a ∈ φ i) (on : On g P (L2.upd H a o) v w d (φ i)) : Rel g (env.set i (some (w, d))) σ (L2.upd H a o) P φ := by
  have ne : ∀ j b, b ∈ φ j → j ≠ i → b ≠ a := fun j b hb hj z => hj (r.dj j i b hb (by rw [z]; exact ha))
  refine ⟨by rw [List.length_set]; exact r.len, fun j w' d' h => ?_, r.nd, r.dj, r.ap, fun j b hb => ?_, fun b u h => ?_⟩
  · by_cases e : j = i
    · subst e
      have hlt : j < env.length := by
        rcases Nat.lt_or_ge j env.length with h1 | h1
        · exact h1
        · rw [List.getElem?_eq_none (by rw [List.length_set]; exact h1)] at h; cases h
      rw [List.getElem?_set_self hlt] at h
      cases h
      exact ⟨v, hv, on⟩
    · rw [List.getElem?_set_ne (Ne.symm e)] at h
      obtain ⟨v', e1, o'⟩ := r.on j _ _ h
      exact ⟨v', e1, o'.frame (Sub.refl _) fun b hb u hu => by rw [upd_ne (ne j b hb e)]; exact hu⟩
  · by_cases z : b = a
    · subst z; rw [upd_same]; simp
    · rw [upd_ne z]; exact r.tr j b hb
  · rw [upd_ne (fun z => by rw [z, r.ap i a ha] at h; cases h)]; exact r.sub b u h
theorem Step.write {i : Nat} {a : Addr} {o : HO} (ha : a ∈ φ i) : Step H P φ (L2.upd H a o) P φ :=
  ⟨fun b u e n => by rw [upd_ne (fun z => n i (by rw [z]; exact ha))]; exact e, fun b e => by
    by_cases z : b = a
    · subst z; rw [upd_same]; simp
    · rw [upd_ne z]; exact e, Sub.refl P, fun i b h => .inl ⟨i, h⟩, fun b h => .inl h⟩
theorem Rel.own_lst (r : Rel g env σ H P φ) {i : Nat} {ds : List D} (e : env[i]? = some (some (.own .frz, .lst ds))) : ∃ a xs, σ[i]? = some (some (.ref a)) ∧ H a = some (.lst xs) ∧ Dns g P xs ds ∧ φ i = [a] := by
  obtain ⟨v, e1, o⟩ := r.on i _ _ e
  generalize hf : φ i = fp at o
  cases o with
  | @lst a _ xs _ fp h n =>
    obtain ⟨n1, e2⟩ := n.frz
    subst e2
    exact ⟨a, xs, e1, h, n1, rfl⟩
theorem Rel.own_dct (r : Rel g env σ H P φ) {i : Nat} {ks vs : List D} (e : env[i]? = some (some (.own .frz, .dct ks vs))) : ∃ a kvs, σ[i]? = some (some (.ref a)) ∧ H a = some (.dK kvs) ∧ ks = kvs.map (fun p => kD p.1) ∧ (kvs.map (·.1)).Nodup ∧ Dns g P (kvs.map (·.2)) vs ∧ φ i = [a] := by
  obtain ⟨v, e1, o⟩ := r.on i _ _ e
  generalize hf : φ i = fp at o
  cases o with
  | @dct a _ kvs _ _ fp h hk nn n =>
    obtain ⟨n1, e2⟩ := n.frz
    subst e2
    exact ⟨a, kvs, e1, h, hk, nn, n1, rfl⟩
theorem Rel.put_lst (r : Rel g env σ H P φ) {i : Nat} {a : Addr} {xs : List V} {ds : List D} (hv : σ[i]? = some (some (.ref a))) (hf : φ i = [a]) (n : Dns g P xs ds) : Rel g (env.set i (some (.own .frz, .lst ds))) σ (L2.upd H a (.lst xs)) P φ :=
  r.write hv (by rw [hf]; exact List.mem_cons_self) (by rw [hf]; exact .lst upd_same (.of_frz n))
theorem Rel.put_dct (r : Rel g env σ H P φ) {i : Nat} {a : Addr} {kvs : List (Key × V)} {vs : List D} (hv : σ[i]? = some (some (.ref a))) (hf : φ i = [a]) (nn : (kvs.map (·.1)).Nodup) (n : Dns g P (kvs.map (·.2)) vs) : Rel g (env.set i (some (.own .frz, .dct (kvs.map fun p => kD p.1) vs))) σ (L2.upd H a (.dK kvs)) P φ :=
  r.write hv (by rw [hf]; exact List.mem_cons_self) (by rw [hf]; exact .dct upd_same rfl nn (.of_frz n))
/-- what stands in a slot -/
theorem slot_lst {i : Nat} {ds : List D} (h1 : wP env i [] = some (.own .frz)) (h2 : readP env i [] = some (.lst ds)) : env[i]? = some (some (.own .frz, .lst ds)) := by
  unfold wP at h1
  split at h1
  · rename_i w d e
    simp only [PV.W.at, Option.some.injEq] at h1
    subst h1
    unfold readP getV at h2
    rw [e] at h2
    simp only [Option.bind_some, D.at, Option.some.injEq] at h2
    subst h2
    exact e
  · cases h1
theorem slot_dct {i : Nat} {ks vs : List D} (h1 : wP env i [] = some (.own .frz)) (h2 : readP env i [] = some (.dct ks vs)) : env[i]? = some (some (.own .frz, .dct ks vs)) := by
  unfold wP at h1
  split at h1
  · rename_i w d e
    simp only [PV.W.at, Option.some.injEq] at h1
    subst h1
    unfold readP getV at h2
    rw [e] at h2
    simp only [Option.bind_some, D.at, Option.some.injEq] at h2
    subst h2
    exact e
  · cases h1
theorem putP_nil {i : Nat} {w : PV.W} {d x : D} (e : env[i]? = some (some (w, d))) : putP env i [] x = some (env.set i (some (w, x))) := by
  unfold putP
  rw [e]
  rfl
end

section
variable {X : Cx} {g : Gx} {W : WX} {cf mk : CF} {a b c e f o : Expr} {es : List Expr} {ca cb cc : C} {pos p2 apos cpos : Pos} {i : Nat}
theorem e_pop (ho : PE X o (tVar i)) (hbase : attributeBase o "pop" X.env (eval o X.env) = eval o X.env) (hline : (apos.endLine == cpos.line) = true) : PE X (.Call (.Attribute o "pop" apos) [] [] cpos) (tE g W cf mk (.pop i [])) := by
  refine (pe_bm0 PySem.F.plainAttrs_list PySem.F.slot_list_pop PySem.F.type_list_pop mt_pop ho hbase hline).imp fun σ H Q ⟨env, P, φ, rel, p⟩ => ?_
  simp only [evE] at p
  split at p
  · rename_i ds h1 h2
    have e := slot_lst h2 h1
    obtain ⟨a, xs, ev, hH, n, hf⟩ := rel.own_lst e
    split at p
    · rename_i d hd
      rw [putP_nil e] at p
      have p : Post g W σ H P φ (ρW g (freshW (.pop i []))) (.ok (d, env.set i (some (.own .frz, .lst ds.dropLast)))) Q := p
      obtain ⟨y, hy, dn⟩ := n.get (i := ds.length - 1) (d := d) (by rw [← List.getLast?_eq_getElem?]; exact hd)
      refine ⟨_, ev, .inl ⟨rfl, xs, SqL.of hH⟩, a, xs, y, rfl, rfl, hH, by rw [n.length]; exact hy, ?_⟩
      exact p y _ P φ (rel.put_lst ev hf n.dropLast) (Step.write (i := i) (by rw [hf]; exact List.mem_cons_self)) (ρW_of_dn dn rfl)
    · exact p.elim
  · exact p.elim
theorem few1 (h : isStar e = false) : ((backTo cpos (starEach [e] X.env)).all (fun x => !x.1) && (backToKw cpos (keywordEach [] X.env)).all (fun x => x.1.isSome)
      && decide (([e] : List Expr).length + ([] : List Keyword).length + (if ([] : List Keyword).isEmpty then 0 else 1) < 30)) = true := by
  rw [stars1 h]; rfl
theorem stars2 (h : isStar e = false) (h2 : isStar f = false) : starEach [e, f] X.env = [(false, eval e X.env), (false, eval f X.env)] := by rw [star_of _ h, stars1 h2]
theorem few2 (h : isStar e = false) (h2 : isStar f = false) : ((backTo cpos (starEach [e, f] X.env)).all (fun x => !x.1) && (backToKw cpos (keywordEach [] X.env)).all (fun x => x.1.isSome)
      && decide (([e, f] : List Expr).length + ([] : List Keyword).length + (if ([] : List Keyword).isEmpty then 0 else 1) < 30)) = true := by
  rw [stars2 h h2]; rfl
theorem e_popAt (ho : PE X o (tVar i)) (ha : PE X e (tE g W cf mk ca)) (hs : isStar e = false) (hbase : attributeBase o "pop" X.env (eval o X.env) = eval o X.env) (hline : (apos.endLine == cpos.line) = true) : PE X (.Call (.Attribute o "pop" apos) [e] [] cpos) (tE g W cf mk (.popAt i [] ca)) := by
  refine (pe_bm (t := tCons (tE g W cf mk ca) tNil) PySem.F.plainAttrs_list PySem.F.slot_list_pop PySem.F.type_list_pop mt_popAt ho (pa_cons ha pa_nil (star_of _ hs)) hbase (few1 hs) hline (star_of _ hs) rfl).imp fun σ H Q ⟨env, P, φ, rel, p⟩ => ?_
  simp only [evE] at p
  split at p
  · rename_i ds0 h1 h2
    obtain ⟨a, xs, ev, hH, n, hf⟩ := rel.own_lst (slot_lst h1 h2)
    refine ⟨_, ev, .inl ⟨rfl, xs, SqL.of hH⟩, ?_⟩
    refine tE_of_tD ⟨env, P, φ, rel, Post.bind (ρ1 := ρD g) back_W p ?_⟩
    intro d env1 v H1 P1 φ1 er rel1 st1 hd k
    simp only at k
    split at k
    · rename_i ds k' h3 h4
      have e := slot_lst h4 h3
      obtain ⟨a', xs', ev', hH', n', hf'⟩ := rel1.own_lst e
      rw [ev] at ev'
      cases ev'
      cases hd
      split at k
      · rename_i m hm
        split at hm
        · rename_i hl
          split at k
          · rename_i y hy
            rw [putP_nil e] at k
            have k : Post g W σ H1 P1 φ1 (ρW g (freshW (.popAt i [] ca))) (.ok (y, env1.set i (some (.own .frz, .lst (ds.eraseIdx m))))) Q := k
            obtain ⟨x, hx, dn⟩ := n'.get hy
            obtain ⟨s1, s2, s3, s4⟩ := ixN_seq (show ixN ds.length k' = some m from hm)
            have hl' : (ds.length : Int) ≤ 16777216 := by have : lim = 16777216 := rfl; omega
            refine ⟨a, xs', k', m, x, rfl, rfl, hH', by omega, by omega, by rw [n'.length]; exact s1, hx, ?_⟩
            exact k x _ P1 φ1 (rel1.put_lst ev hf' (n'.eraseIdx m)) (Step.write (i := i) (by rw [hf']; exact List.mem_cons_self)) (ρW_of_dn dn rfl)
          · exact k.elim
        · cases hm
      · exact k.elim
    · exact k.elim
  · exact p.elim
/-- what is read in place -/
theorem readB_db {σ : L2.St} {H P : Hp} {φ : Nat → List Addr} {env : Env} {d : D} (rel : Rel g env σ H P φ) (h : readB env i [] = some d) : ∃ v, σ[i]? = some (some v) ∧ Db g P H v d := by
  unfold readB at h
  split at h
  · rename_i w d2 e2
    obtain ⟨v, ev, o⟩ := rel.on i w d2 e2
    simp only [PV.W.at, D.at] at h
    split at h
    · rename_i fl
      cases h
      refine ⟨v, ev, ?_⟩
      cases w with
      | frz => exact .inl o.frz'.1
      | own w => cases w with
        | frz => exact .inr ⟨_, o⟩
        | _ => exact absurd fl (by simp [PV.W.flat])
      | obj => exact absurd fl (by simp [PV.W.flat])
    · cases h
  · cases h
/-! ### d.get -/
theorem get_at {P H : Hp} {a : Addr} {kvs : List (Key × V)} {vs : List D} {k : D} {y z : V} {x r : D} (hx : H a = some (.dK kvs)) (n : Dns g P (kvs.map (·.2)) vs) (hy : Dn g P y k) (hz : Dn g P z x) (e : get2D (.dct (kvs.map fun p => kD p.1) vs) k x = some r) :
    ∃ o, DGet H a y o ∧ Dn g P (o.getD z) r := by
  simp only [get2D] at e
  split at e
  · rename_i hk
    obtain ⟨kk, rfl⟩ := keyS_kD hk
    cases e
    have ek := hy.key
    subst ek
    refine ⟨valV kvs kk, .inl ⟨kvs, kk, .inl hx, rfl, rfl⟩, ?_⟩
    have hv := valV_at kk kvs n
    cases q : (keyAt (kvs.map fun p => kD p.1) (kD kk)).bind fun i => vs[i]? with
    | none =>
      rw [q] at hv
      rw [hv]
      exact hz
    | some d =>
      rw [q] at hv
      obtain ⟨v, e1, dn⟩ := hv
      rw [e1]
      exact dn
  · cases e
theorem Db.dct {P H : Hp} {v : V} {ks vs : List D} (s : Sub P H) (h : Db g P H v (.dct ks vs)) : ∃ a kvs, v = .ref a ∧ H a = some (.dK kvs) ∧ ks = kvs.map (fun p => kD p.1) ∧ Dns g P (kvs.map (·.2)) vs :=
  let ⟨a, kvs, h1, h2, h3, _, h4⟩ := h.sub_d s; ⟨a, kvs, h1, h2, h3, h4⟩
/-- the tail of d.get: its key, what stands for nothing -/
theorem get_tail {σ : L2.St} {H P : Hp} {φ : Nat → List Addr} {env : Env} {cx : C} {a : Addr} {Q : VK} {β : Type} {fin : D × Env → D × Env → R Env (D × Env)} (rel : Rel g env σ H P φ)
    (p : Post g W σ H P φ (ρW g fun _ => .frz) ((evE cf mk cb env).bind fun r1 => (if cx.isNil then R.ok (D.non, r1.2) else evE cf mk cx r1.2).bind fun r2 => fin r1 r2) Q)
    (k : ∀ y d1 z d2 env' H' P' φ' e1, Rel g env' σ H' P' φ' → Step H P φ H' P' φ' → Dn g P' y d1 → Dn g P' z d2 → Post g W σ H' P' φ' (ρW g fun _ => .frz) (fin (d1, e1) (d2, env')) Q → ∃ o, DGet H' a y o ∧ Q (o.getD z) H') :
    if cx.isNil then tE g W cf mk cb σ H fun y H2 => ∃ o, DGet H2 a y o ∧ Q (o.getD .non) H2 else tE g W cf mk cb σ H fun y H2 => tE g W cf mk cx σ H2 fun z H3 => ∃ o, DGet H3 a y o ∧ Q (o.getD z) H3 := by
  by_cases hn : cx.isNil = true
  · rw [if_pos hn]
    simp only [hn, if_true, R.bind_ok] at p
    refine tE_of_tD ⟨env, P, φ, rel, Post.bind (ρ1 := ρD g) back_W p ?_⟩
    intro d1 env1 y H1 P1 φ1 _ rel1 st1 hd q
    exact k y d1 .non .non env1 H1 P1 φ1 env1 rel1 st1 hd .non q
  · rw [if_neg hn]
    simp only [hn, Bool.false_eq_true, if_false] at p
    refine tE_of_tD ⟨env, P, φ, rel, Post.bind (ρ1 := ρD g) back_W p ?_⟩
    intro d1 env1 y H1 P1 φ1 _ rel1 st1 hd q
    refine tE_of_tD ⟨env1, P1, φ1, rel1, Post.bind (ρ1 := ρD g) back_W q ?_⟩
    intro d2 env2 z H2 P2 φ2 _ rel2 st2 hd2 q2
    exact k y d1 z d2 env2 H2 P2 φ2 env1 rel2 (st1.trans st2) (hd.mono st2.pm) hd2 q2
theorem get_imp {cx : C} {σ : L2.St} {H : Hp} {Q : VK} (h : tE g W cf mk (.get ca cb cx) σ H Q) :
    tArg g W cf mk ca σ H fun x H1 => ∃ a, x = .ref a ∧ IsD H1 a ∧ if cx.isNil then tE g W cf mk cb σ H1 fun y H2 => ∃ o, DGet H2 a y o ∧ Q (o.getD .non) H2 else tE g W cf mk cb σ H1 fun y H2 => tE g W cf mk cx σ H2 fun z H3 => ∃ o, DGet H3 a y o ∧ Q (o.getD z) H3 := by
  obtain ⟨env, P, φ, rel, p⟩ := h
  by_cases hb : ∃ i, ca = .brw i []
  · obtain ⟨i, rfl⟩ := hb
    simp only [evE] at p
    split at p
    · rename_i ks0 vs0 hr
      obtain ⟨v, ev, db⟩ := readB_db rel hr
      obtain ⟨a, kvs, rfl, hH, _, _⟩ := db.dct rel.sub
      rw [show tArg g W cf mk (.brw i []) = tVar i from rfl]
      refine ⟨_, ev, a, rfl, .inl ⟨kvs, .inl hH⟩, get_tail (β := Unit) rel p ?_⟩
      intro y d1 z d2 env' H' P' φ' e1 rel' st hd1 hd2 q
      simp only at q
      split at q
      · rename_i d hr'
        split at q
        · rename_i r er
          obtain ⟨v', ev', db'⟩ := readB_db rel' hr'
          rw [ev] at ev'
          cases ev'
          cases d with
          | dct ks vs =>
            obtain ⟨a', kvs', e2, hH', rfl, n⟩ := db'.dct rel'.sub
            cases e2
            obtain ⟨o, g1, g2⟩ := get_at hH' n hd1 hd2 er
            exact ⟨o, g1, q.ok rel' (ρW_of_dn g2 rfl)⟩
          | _ => simp [get2D] at er
        · exact q.elim
      · exact q.elim
    · exact p.elim
  · have ea : tArg g W cf mk ca = tE g W cf mk ca := by
      unfold tArg
      split
      · exact absurd ⟨_, rfl⟩ hb
      · rfl
    rw [ea]
    have ev : evE cf mk (.get ca cb cx) env = (evE cf mk ca env).bind fun r0 => match r0.1 with
      | .dct ks vs => (evE cf mk cb r0.2).bind fun r1 => (if cx.isNil then R.ok (D.non, r1.2) else evE cf mk cx r1.2).bind fun r2 => match get2D (.dct ks vs) r1.1 r2.1 with
        | some v => .ok (v, r2.2)
        | none => .stuck
      | _ => .stuck := by
      cases ca with
      | brw i fs => cases fs with
        | nil => exact absurd ⟨i, rfl⟩ hb
        | cons => simp only [evE] <;> rfl
      | _ => simp only [evE] <;> rfl
    rw [ev] at p
    refine tE_of_tD ⟨env, P, φ, rel, Post.bind (ρ1 := ρD g) back_W p ?_⟩
    intro d0 env0 x H0 P0 φ0 er0 rel0 st0 hd q0
    simp only at q0
    split at q0
    · rename_i ks vs
      obtain ⟨a, kvs, rfl, hH, rfl, n⟩ := Db.dct rel0.sub (.inl hd)
      refine ⟨a, rfl, .inl ⟨kvs, .inl hH⟩, get_tail (β := Unit) rel0 q0 ?_⟩
      intro y d1 z d2 env' H' P' φ' e1 rel' st hd1 hd2 q
      simp only at q
      split at q
      · rename_i r er
        have hd' : Dn g P' (.ref a) (.dct (kvs.map fun p => kD p.1) vs) := hd.mono st.pm
        obtain ⟨a', kvs', e2, hH', e3, n'⟩ := Db.dct rel'.sub (.inl hd')
        cases e2
        rw [e3] at er
        obtain ⟨o, g1, g2⟩ := get_at hH' n' hd1 hd2 er
        exact ⟨o, g1, q.ok rel' (ρW_of_dn g2 rfl)⟩
      · exact q.elim
    · exact q0.elim
theorem e_get1 (hu : X.A.units + 1 < cLine) (ho : PE X o (tArg g W cf mk ca)) (he : PE X e (tE g W cf mk cb)) (hs : isStar e = false) (hbase : attributeBase o "get" X.env (eval o X.env) = eval o X.env) (hline : (apos.endLine == cpos.line) = true) :
    PE X (.Call (.Attribute o "get" apos) [e] [] cpos) (tE g W cf mk (.get ca cb .nil)) :=
  (pe_dget1 hu ho he ⟨hbase, few1 hs, hline, by rw [stars1 hs]; rfl⟩).imp fun σ H Q h => get_imp h
theorem e_get2 (hu : X.A.units + 1 < cLine) (ho : PE X o (tArg g W cf mk ca)) (he : PE X e (tE g W cf mk cb)) (hf : PE X f (tE g W cf mk cc)) (hn : cc.isNil = false) (hs : isStar e = false) (hs2 : isStar f = false) (hbase : attributeBase o "get" X.env (eval o X.env) = eval o X.env) (hline : (apos.endLine == cpos.line) = true) :
    PE X (.Call (.Attribute o "get" apos) [e, f] [] cpos) (tE g W cf mk (.get ca cb cc)) := by
  refine (pe_dget2 hu ho he hf ⟨hbase, few2 hs hs2, hline, by rw [stars2 hs hs2]; rfl⟩).imp fun σ H Q h => ?_
  have q := get_imp h
  simp only [hn, Bool.false_eq_true, if_false] at q
  exact q
end
end PV
end

section
set_option Elab.async false
set_option linter.all false
set_option maxRecDepth 100000
set_option maxHeartbeats 1000000
/-! PV15: more expressions: keywords, sums with a start, texts of data, isinstance, turned lists. -/
namespace PV
open PySem L2 PySem.Spec PyProof.Rows

/-! ### f(.., k = ..) -/
section
variable {g : Gx} {W : WX} {cf mk : CF} {σ : L2.St} {H P : Hp} {φ : Nat → List Addr} {env : Env}
theorem permL_dns : ∀ {ks : List Nat} {vs : List V} {ds args : List D}, Dns g P vs ds → permL ds ks = some args → ∃ ws, permL vs ks = some ws ∧ Dns g P ws args
  | [], _, _, _, _, h => by cases h; exact ⟨[], rfl, .nil⟩
  | k :: r, vs, ds, args, n, h => by
    simp only [permL] at h
    obtain ⟨a, e1, e2⟩ := Option.bind_eq_some_iff.mp h
    obtain ⟨as, e3, rfl⟩ := Option.map_eq_some_iff.mp e2
    obtain ⟨v, h1, dn⟩ := n.get e1
    obtain ⟨ws, h2, dns⟩ := permL_dns n e3
    exact ⟨v :: ws, by simp only [permL, h1, h2, Option.bind_some, Option.map_some], .cons dn dns⟩
theorem permL_len {α : Type} {l : List α} : ∀ {ks : List Nat} {args : List α}, permL l ks = some args → args.length = ks.length
  | [], _, h => by cases h; rfl
  | k :: r, args, h => by
    simp only [permL] at h
    obtain ⟨a, e1, e2⟩ := Option.bind_eq_some_iff.mp h
    obtain ⟨as, e3, rfl⟩ := Option.map_eq_some_iff.mp e2
    simp only [List.length_cons, permL_len e3]
theorem permL_vals : ∀ {ks : List Nat} {vs ws : List V} {us : List Value}, Vals vs us → permL vs ks = some ws → ∃ zs, permL us ks = some zs ∧ Vals ws zs
  | [], _, _, _, _, h => by cases h; exact ⟨[], rfl, .nil⟩
  | k :: r, vs, ws, us, n, h => by
    simp only [permL] at h
    obtain ⟨a, e1, e2⟩ := Option.bind_eq_some_iff.mp h
    obtain ⟨as, e3, rfl⟩ := Option.map_eq_some_iff.mp e2
    obtain ⟨v, h1, dn⟩ := n.get e1
    obtain ⟨zs, h2, dns⟩ := permL_vals n e3
    exact ⟨v :: zs, by simp only [permL, h1, h2, Option.bind_some, Option.map_some], .cons dn dns⟩
theorem frz_rel {vs : List V} {ds : List D} (n : Dns g P vs ds) (s : Sub P H) : Rel g (argEnv (List.replicate ds.length .frz) ds) (vs.map some) H P (fun _ => []) := by
  refine ⟨?_, fun i w d h => ?_, fun _ => List.nodup_nil, fun i j a ha => by simp at ha, fun i a ha => by simp at ha, fun i a ha => by simp at ha, s⟩
  · simp only [argEnv, List.length_map, List.length_zip, List.length_replicate, n.length, Nat.min_self]
  · unfold argEnv at h
    rw [List.getElem?_map] at h
    cases e : (List.zip (List.replicate ds.length PV.W.frz) ds)[i]? with
    | none => rw [e] at h; cases h
    | some p =>
      rw [e] at h
      cases h
      rw [List.getElem?_zip_eq_some] at e
      obtain ⟨e1, e2⟩ := e
      have ew : w = .frz := by
        rw [List.getElem?_replicate] at e1
        split at e1
        · exact (Option.some.inj e1).symm
        · cases e1
      subst ew
      obtain ⟨v, h1, dn⟩ := n.get e2
      exact ⟨v, by rw [List.getElem?_map, h1]; rfl, .frz dn⟩
/-- behind something that may change nothing of ours -/
theorem Rel.past (r : Rel g env σ H P φ) {H' P' : Hp} {ψ' : Nat → List Addr} (st : Step H P (fun _ => []) H' P' ψ') (s : Sub P' H') : Rel g env σ H' P' φ ∧ Step H P φ H' P' φ := by
  have kp : ∀ a o, H a = some o → H' a = some o := fun a o h => st.keep a o h fun i hi => by simp at hi
  refine ⟨⟨r.len, fun i w d h => ?_, r.nd, r.dj, fun i a ha => ?_, fun i a ha => st.there a (r.tr i a ha), s⟩, ⟨fun a o h _ => kp a o h, st.there, st.pm, fun i a h => .inl ⟨i, h⟩, fun a h => ?_⟩⟩
  · obtain ⟨v, e, o⟩ := r.on i w d h
    exact ⟨v, e, o.frame st.pm fun a _ o h => kp a o h⟩
  · cases z : P' a with
    | none => rfl
    | some o =>
      rcases st.pn a (by rw [z]; simp) with y | ⟨j, y⟩ | y
      · exact absurd (r.ap i a ha) y
      · simp at y
      · exact absurd y (r.tr i a ha)
  · rcases st.pn a h with y | ⟨j, y⟩ | y
    · exact .inl y
    · simp at y
    · exact .inr (.inr y)
/-- what a keyword's call gives to its caller -/
theorem evV_len : ∀ {c : C} {env : Env} {ds : List D} {env' : Env}, evV cf mk c env = .ok (ds, env') → ds.length = c.len := by
  intro c
  induction c with
  | nil => intro env ds env' h; simp only [evV, R.ok.injEq, Prod.mk.injEq] at h; rw [← h.1]; rfl
  | cons a r _ ih =>
    intro env ds env' h
    simp only [evV] at h
    obtain ⟨p, h1, h⟩ := bind_ok h
    obtain ⟨q, h2, h⟩ := bind_ok h
    cases h
    simp only [List.length_cons, C.len, ih h2]
  | _ => intro env ds env' h; simp only [evV] at h; cases h
theorem callK_imp {k : Nat} {rw : PV.W} {ks : List Nat} {ca cb : C} {Q : VK} (hcf : CFok cf) (h : tE g W cf mk (.callK k ks ca cb) σ H Q) :
    tVs g W cf mk ca σ H fun vs H1 => tVs g W cf mk cb σ H1 fun zs H2 => ∃ ws, vs.length = ca.len ∧ zs.length = cb.len ∧ permL (vs ++ zs) ks = some ws ∧ ∀ n, n = ks.length → SpF g cf k (List.replicate n .frz) rw ws H2 Q (WE W σ) := by
  obtain ⟨env, P, φ, rel, p⟩ := h
  simp only [evE] at p
  refine tVs_of ca ⟨env, P, φ, rel, Post.bind back_W p ?_⟩
  intro ds1 env1 vs H1 P1 φ1 er1 rel1 st1 h1 k1
  refine tVs_of cb ⟨env1, P1, φ1, rel1, Post.bind back_W k1 ?_⟩
  intro ds2 env2 zs H2 P2 φ2 er2 rel2 st2 h2 k2
  simp only at k2
  split at k2
  · rename_i args ha
    have dn : Dns g P2 (vs ++ zs) (ds1 ++ ds2) := (Dns.mono st2.pm h1).append h2
    obtain ⟨ws, e1, dns⟩ := permL_dns dn ha
    refine ⟨ws, by rw [Dns.length h1, evV_len er1], by rw [Dns.length h2, evV_len er2], e1, fun n hn => ?_⟩
    have hl : args.length = n := by rw [hn]; exact permL_len ha
    subst hl
    refine ⟨args, P2, fun _ => [], by rw [List.length_replicate], frz_rel dns rel2.sub, ?_⟩
    cases ec : cf k args with
    | ok q =>
      rw [ec] at k2
      refine ⟨by rw [hcf.ok _ _ _ ec, List.length_replicate], fun v H' P' ψ' r' st' ⟨fp, on, nd, ap⟩ => ?_⟩
      obtain ⟨rel3, st3⟩ := rel2.past st' r'.sub
      obtain ⟨P3, rel4, st4, _, dn⟩ := ρW_cool (w := fun _ => rw) (H0 := H2) rel3 ⟨fp, on, nd, fun a ha => ⟨(ap a ha).1, (ap a ha).2.1, fun i hi => rel2.tr i a hi (ap a ha).1⟩⟩ st3
      exact k2 v H' P3 _ rel4 st4 (ρW_of_dn dn rfl)
    | exc x outs =>
      rw [ec] at k2
      refine ⟨by rw [hcf.ex _ _ _ _ ec, List.length_replicate], fun cls dx H' P' ψ' r' st' xo => ?_⟩
      obtain ⟨rel3, st3⟩ := rel2.past st' r'.sub
      exact k2 cls dx H' P' _ rel3 st3 xo
    | stuck => rw [ec] at k2; exact k2
  · exact k2.elim
end
section
variable {X : Cx} {g : Gx} {W : WX} {cf mk : CF} {a b c e f o : Expr} {es : List Expr} {ca cb cc : C} {pos p2 apos cpos kpos : Pos} {kws : List Keyword} {nm : Option Str}
theorem pk_vs_nil : PK X [] (tVs g W cf mk .nil) := pk_nil
theorem pk_vs_cons (ha : PE X e (tE g W cf mk ca)) (hr : PK X kws (tVs g W cf mk cb)) : PK X (⟨nm, e, kpos⟩ :: kws) (tVs g W cf mk (.cons ca cb)) := pk_cons ha hr
/-- the keywords' names, where each has one -/
def kwNames : List Keyword → Option (List Str)
  | [] => some []
  | ⟨some n, _, _⟩ :: r => (kwNames r).map (n :: ·)
  | ⟨none, _, _⟩ :: _ => none
theorem kw_facts (env : PySem.Env) : ∀ {kws : List Keyword} {ns : List Str}, kwNames kws = some ns →
    (backToKw pos (keywordEach kws env)).all (·.1.isSome) = true ∧ (backToKw pos (keywordEach kws env)).filterMap (·.1) = ns ∧ (backToKw pos (keywordEach kws env)).any (·.1.isNone) = false
  | [], ns, h => by cases h; exact ⟨rfl, rfl, rfl⟩
  | ⟨none, _, _⟩ :: _, ns, h => by cases h
  | ⟨some n, v, _⟩ :: r, ns, h => by
    simp only [kwNames] at h
    obtain ⟨ms, e, rfl⟩ := Option.map_eq_some_iff.mp h
    obtain ⟨h1, h2, h3⟩ := kw_facts env e
    unfold backToKw at h1 h2 h3 ⊢
    simp only [keywordEach, List.map_cons, List.all_cons, List.filterMap_cons, List.any_cons] at h1 h2 h3 ⊢
    exact ⟨by simpa using h1, by simpa using h2, by simpa using h3⟩
theorem vals_append {vs zs : List V} {us ws : List Value} (h : Vals vs us) (k : Vals zs ws) : Vals (vs ++ zs) (us ++ ws) := h.append k
theorem e_callK {x : Str} {n k : Nat} {rw : PV.W} {ks : List Nat} {names : List Str} {fa : Addr} {fd : FuncData} {ps : List Str} {p : Pos} (hcf : CFok cf) (F : FnG X.prog X.w X.K X.mg X.base n fa fd ps (SpF g cf k (List.replicate ks.length .frz) rw)) (hgu : X.A.guards = some []) (hr : Room n X.A) (hg : Gl X x) (hm : X.mg x = some (.ref fa)) (hk : PySem.W.keepIn X.K (.ref fa) = true)
    (hb : ∀ (s : Shared) (us ws args : List Value), us.length = ca.len → ws.length = cb.len → permL (us ++ ws) ks = some args → BindsTo s fd ⟨us, names.zip ws⟩ (ps.zip args)) (tk : Takes X W) (hd : (x == ("__debug__" : Str)) = false)
    (ha : PA X es (tVs g W cf mk ca)) (hkw : PK X kws (tVs g W cf mk cb)) (hn : kwNames kws = some names) (hs : noStars es = true) (hnil : es = [] → ca = .nil) : PE X (.Call (.Name x p) es kws pos) (tE g W cf mk (.callK k ks ca cb)) := by
  refine ⟨fun pins s σ H Q I h => ?_⟩
  have h2 := callK_imp (rw := rw) hcf h
  obtain ⟨f1, f2, f3⟩ := kw_facts (pos := pos) X.env hn
  refine wpAny_Call_Name_kw (ld_glob I hg hm ?_ hd)
  have main : ∀ (us : List Value) (s1 : Shared) (vs : List V) (H1 : Hp), Inv X pins σ H1 s1 → Vals vs us → (tVs g W cf mk cb σ H1 fun zs H2 => ∃ ws, vs.length = ca.len ∧ zs.length = cb.len ∧ permL (vs ++ zs) ks = some ws ∧ ∀ n, n = ks.length → SpF g cf k (List.replicate n .frz) rw ws H2 Q (WE W σ)) →
      wpAny (model X.prog X.w) X.A (evalAll ((backToKw pos (keywordEach kws X.env)).map (·.2))) (fun ws s2 => X.K.In s2.heap ∧ wpAny (model X.prog X.w) X.A (PySem.call (.ref fa) ([] ++ us) (((backToKw pos (keywordEach kws X.env)).filterMap (·.1)).zip ws)) (EP X pins σ Q) X.xe s2) X.xe s1 := by
    intro us s1 vs H1 I1 r q
    refine thn (hkw.run pos pins s1 σ H1 _ I1 q) fun ws s2 ⟨zs, H2, I2, rz, wv, l1, l2, hp, hsp⟩ => ⟨I2.kIn, ?_⟩
    rw [f2]
    obtain ⟨args, hp2, ra⟩ := permL_vals (vals_append r rz) hp
    exact run_fnG F hgu hr (fun _ => hb s2 us ws args (by rw [← r.length, l1]) (by rw [← rz.length, l2]) hp2) tk I2 ra (hsp _ rfl)
  cases es with
  | nil =>
    obtain rfl := hnil rfl
    exact PySem.W.callWith_KW0 (h₀ := X.base) I.ok.mod.kin hk f1 (main [] s [] H I .nil h2) (by rw [f3]; rfl)
  | cons e es =>
    simp only [noStars, Bool.and_eq_true, Bool.not_eq_true'] at hs
    exact PySem.W.callWith_KW (h₀ := X.base) I.ok.mod.kin hk f1 (thn (ha.run pos pins s σ H _ I h2) fun us s1 ⟨vs, H1, I1, r, q⟩ => main us s1 vs H1 I1 r q) (by rw [star_of _ hs.1]; show ((false || (backTo pos (starEach es X.env)).any (·.1)) || _) = false; rw [any_stars _ es hs.2, f3]; rfl) (star_of _ hs.1)
end
/-! ### sum(xs, 0) -/
section
variable {prog : Program} {w : World} {A : Around} {E : Value → Shared → Prop} {s : Shared}
theorem args_sum2 (a b : Value) : argsOk "sum" ⟨[a, b], []⟩ := by unfold argsOk; kernel_rfl
theorem call_sum0 {x : Value} {t : Tok} {Q : Value → Shared → Prop}
    (h : wpAny (model prog w) A.in1 (pyIter x) (fun it s₂ => ∃ I fp wr n P St val, it = .ref I ∧ Walks prog w A.in1 I fp wr n P St ∧ St 0 s₂.heap ∧ (∀ b ∈ fp, b < s₂.heap.objs.size) ∧
      (∀ i v, P i v → ∃ t, v = .int (val i) t) ∧
      ∀ h' tk t', (∀ b o, b ∉ wr → s₂.heap.get? b = some o → h'.get? b = some o) → Q (.int (preSum val n) t') { s₂ with heap := h', toks := tk }) E s) :
    wpAny (model prog w) A (PySem.call (.builtin "sum") [x, .int 0 t]) Q E s := by
  refine call_function_tree F.kind_sum F.plain_sum F.entry_sum (args_sum2 _ _) ?_
  unfold Builtin.«sum»
  simp only [List.length_cons, List.length_nil]
  rw [if_neg (by decide)]
  refine wpAny_bind (wpAny_of_eq (show Builtin.Builtins.bindParams "sum" ["start"] 0 ⟨[.int 0 t], []⟩ = pure [some (.int 0 t)] from rfl) ?_)
  refine wpAny_bind (wpAny_mono h (fun it s₂ h₂ => ?_) fun _ _ e => e)
  obtain ⟨I, fp, wr, n, P, St, val, rfl, W, hst, hfp, hval, hQ⟩ := h₂
  refine wpAny_bind (wpAny_rule (wpAny_bind (wpAny_mkInt (wpAny_bind (wpAny_pure ?_)))))
  simp only [List.forIn_cons, List.forIn_nil]
  refine wpAny_bind (wpAny_bind (wpAny_bind (wpAny_isInstance (T := "int") (b := false) (typeIs_int _ _ _) PySem.sub_int_str ?_)))
  simp only [Bool.false_eq_true, if_false]
  refine wpAny_pure (wpAny_bind (wpAny_bind (wpAny_isInstance (T := "int") (b := false) (typeIs_int _ _ _) PySem.sub_int_bytes ?_)))
  simp only [Bool.false_eq_true, if_false]
  refine wpAny_pure (wpAny_bind (wpAny_bind (wpAny_isInstance (T := "int") (b := false) (typeIs_int _ _ _) PySem.sub_int_bytearray ?_)))
  simp only [Bool.false_eq_true, if_false]
  refine wpAny_pure (wpAny_pure ?_)
  refine wpAny_bind (wpAny_newObj_type ?_)
  have hSf : s₂.heap.objs.size ∉ fp := fun hm => Nat.lt_irrefl _ (hfp _ hm)
  refine wpAny_pure ⟨plainId_quiet F.plain_sum_loop _, codeAny_sum_loopG W val hval s₂.heap.objs.size hSf n 0 _ s₂.toks 0 0 (Or.inl rfl) rfl (Nat.zero_le _)
    (W.frame _ _ _ hst fun b _ o e => Heap.get?_push_of_some _ e) (Heap.get?_push_size _ rfl) fun h' tk t' hk => ?_⟩
  exact hQ h' tk t' fun b o hbw e => hk b o hbw (Nat.ne_of_lt (Heap.lt_size e)) (Heap.get?_push_of_some _ e)
theorem sum0_ints {l : Addr} {xs : Array (Int × Tok)} {t : Tok} {Q : Value → Shared → Prop} (hh : A.handled = none) (hl : s.heap.IsList l (intItems xs))
    (h : ∀ h' tk t', (∀ b o, s.heap.get? b = some o → h'.get? b = some o) → Q (.int (preSum (numAt xs) xs.size) t') { s with heap := h', toks := tk }) :
    wpAny (model prog w) A (PySem.call (.builtin "sum") [.ref l, .int 0 t]) Q E s := by
  refine call_sum0 (iter_intList hl fun s₂ e st hfp hlI => ?_)
  subst e
  refine ⟨_, _, _, _, _, _, numAt xs, rfl, Walks.list (A := A.in1) hh _ l hlI (intItems xs), st, hfp, (fun _ _ => intItems_at), fun h' tk t' hk => ?_⟩
  have := h h' tk t' (old_kept hk)
  simpa [intItems] using this
theorem sum0_raw {l : Addr} {its : List Value} {ns : List Int} {t : Tok} {Q : Value → Shared → Prop} (hh : A.handled = none) (hl : s.heap.IsList l its.toArray) (hi : IntsAre its ns)
    (h : ∀ h' tk t', (∀ b o, s.heap.get? b = some o → h'.get? b = some o) → Q (.int ns.sum t') { s with heap := h', toks := tk }) : wpAny (model prog w) A (PySem.call (.builtin "sum") [.ref l, .int 0 t]) Q E s := by
  obtain ⟨xs, e⟩ := hi.allInts.items
  have hn : numsOf (intItems xs).toList = ns := by rw [← e]; exact hi.numsOf
  rw [nums_intItems] at hn
  rw [e] at hl
  refine sum0_ints hh hl fun h' tk t' hk => ?_
  have := h h' tk t' hk
  rw [preSum_eq, List.take_of_length_le (by simp), hn]; exact this
end
section
variable {X : Cx} {g : Gx} {W : WX} {cf mk : CF} {a b c e f o : Expr} {es : List Expr} {ca cb cc : C} {pos p p2 apos cpos kpos : Pos}
theorem tArg_mono {σ : L2.St} {H : Hp} {Q Q' : VK} (h : tArg g W cf mk ca σ H Q) (k : ∀ v H', Q v H' → Q' v H') : tArg g W cf mk ca σ H Q' := by
  by_cases hb : ∃ i, ca = .brw i []
  · obtain ⟨i, rfl⟩ := hb
    obtain ⟨v, e, q⟩ := h
    exact ⟨v, e, k _ _ q⟩
  · have ea : tArg g W cf mk ca = tE g W cf mk ca := by
      unfold tArg
      split
      · exact absurd ⟨_, rfl⟩ hb
      · rfl
    rw [ea] at h ⊢
    exact tE_mono h k
theorem r_sum0 (hK : X.K = g.K) (hc : X.calm = true) : CallR X (.builtin "sum") (fun xs H Q => ∃ x, xs = [x, .int 0] ∧ rPL g .sum0 [x] H Q) := by
  intro pins s σ H vs us Q I r ⟨x, ex, h⟩
  subst ex
  obtain ⟨P, x', q, d, e, sub, h1, hf, k⟩ := rPL1_inv rfl h
  cases e
  unfold sumD at hf
  split at hf
  · rename_i r'
    cases e : intsD r' with
    | none => rw [e] at hf; cases hf
    | some ns =>
      rw [e] at hf
      cases hf
      obtain ⟨t, ys, rfl, hx, n⟩ := h1.sub_l sub
      have e2 := intsD_map e
      subst e2
      have e3 := n.ints
      subst e3
      obtain ⟨its, rv, hl, _⟩ := I.list (by rw [hK]; exact hx)
      cases r with
      | cons r1 r =>
        cases r with
        | cons r2 r =>
          cases r
          cases r1
          obtain ⟨tk, rfl⟩ := r2
          exact sum0_raw (I.ok.hd hc) hl.isList rv.ints fun h' tk t' hk => ⟨.int _, H, I.kept hk, ⟨_, rfl⟩, PV.give sub k rfl (.int _)⟩
  · cases hf
theorem e_sum0 (hK : X.K = g.K) (hc : X.calm = true) (hg : Gl X "sum") (hm : X.mg "sum" = none) (ha : PE X a (tArg g W cf mk ca)) (hb : PE X b (L2.tC (.int 0))) (hs : isStar a = false) (hs2 : isStar b = false) :
    PE X (.Call (.Name "sum" p) [a, b] [] pos) (tE g W cf mk (.prim .sum0 (.cons ca .nil))) :=
  (pe_callB (t := tCons (tArg g W cf mk ca) (tCons (L2.tC (.int 0)) tNil)) (r_sum0 hK hc) hg hm rfl (pa_cons ha (pa_cons hb pa_nil (star_of _ hs2)) (star_of _ hs)) (by decide) (by decide) (star_of _ hs) (any_stars _ [b] (by simp [noStars, hs2]))).imp fun σ H Q h => by
    have q : tArg g W cf mk ca σ H fun x H' => rPL g .sum0 [x] H' Q := tArgs_prim h
    exact tArg_mono q fun v H' z => ⟨v, rfl, z⟩
/-! ### texts of data -/
theorem r_repr (hK : X.K = g.K) (hgu : X.A.guards = some []) (hu : X.A.units + 64 < cLine) : CallR X (.builtin "repr") (rPL g .repr) := by
  intro pins s σ H vs us Q I r h
  obtain ⟨P, x, a, d, rfl, sub, h1, hf, k⟩ := rPL1_inv rfl h
  unfold reprD at hf
  split at hf
  · rename_i ok
    cases hf
    simp only [Bool.and_eq_true, decide_eq_true_eq] at ok
    obtain ⟨⟨⟨o1, o2⟩, o3⟩, o4⟩ := ok
    obtain ⟨u, rfl, ru⟩ := vals1 r
    obtain ⟨as, rd⟩ := Dp.reads I _ _ _ (by rw [hK]; exact h1.dp sub o2) ru
    have hr : ∃ q, u = .ref q := by
      cases a with
      | tup ds => obtain ⟨q, _, rfl, _⟩ := h1.sub_t sub; exact ⟨q, ru⟩
      | lst ds => obtain ⟨q, _, rfl, _⟩ := h1.sub_l sub; exact ⟨q, ru⟩
      | _ => cases o1
    obtain ⟨q, rfl⟩ := hr
    obtain ⟨c1, c2⟩ := okd_lay 60 a o2
    have hl : lim = 16777216 := rfl
    refine PySem.repr_of_reads' rd o3 (PyData.noDict_hsm (PyData.hasDict_of_canLay _ c1)) hgu (by omega) (fun _ _ e => e) (fun h' u tk hk => ⟨.str _, H, I.kept hk, ⟨_, rfl⟩, PV.give sub k rfl (.str _)⟩) (by rw [sizeLine_eq]; omega)
  · cases hf
/-! ### xs[::-1] -/
theorem Dns.reverse {P : Hp} : ∀ {vs : List V} {ds : List D}, Dns g P vs ds → Dns g P vs.reverse ds.reverse
  | _, _, .nil => .nil
  | _, _, .cons h r => by
    rw [List.reverse_cons, List.reverse_cons]
    exact (Dns.reverse r).append (.cons h .nil)
theorem e_revL {k : Nat} {p1 p2 p3 : Pos} (hK : X.K = g.K) (ha : PE X a (tArg g W cf mk ca)) : PE X (.Subscript a (.Slice none none (some (.UnaryOp .USub (.Constant (.int 1) k p1) p2)) p3) pos) (tE g W cf mk (.prim .rev (.cons ca .nil))) := by
  refine (pe_revL ha).imp fun σ H Q h => ?_
  have q : tArg g W cf mk ca σ H fun x H' => rPL g .rev [x] H' Q := tArgs_prim h
  refine tArg_mono q fun v H' z => ?_
  obtain ⟨P, x, a, d, ex, sub, h1, hf, k⟩ := rPL1_inv rfl z
  cases ex
  unfold revD at hf
  split at hf
  · cases hf
    obtain ⟨t, ys, rfl, hx, n⟩ := h1.sub_l sub
    exact ⟨t, ys, rfl, by rw [hK]; exact hx, giveL sub k rfl n.reverse⟩
  · cases hf
/-! ### isinstance -/
theorem e_isa {t : Ty} (hK : X.K = g.K) (hg : Gl X "isinstance") (hm : X.mg "isinstance" = none) (ha : PE X a (tArg g W cf mk ca)) (hb : PE X b (L2.tC (.ty t.name))) (hs : isStar a = false) (hs2 : isStar b = false) :
    PE X (.Call (.Name "isinstance" p) [a, b] [] pos) (tE g W cf mk (.prim (.isa [t]) (.cons ca .nil))) :=
  (pe_callB (t := tCons (tArg g W cf mk ca) (tCons (L2.tC (.ty t.name)) tNil)) (r_isa1 hK t) hg hm rfl (pa_cons ha (pa_cons hb pa_nil (star_of _ hs2)) (star_of _ hs)) (by decide) (by decide) (star_of _ hs) (any_stars _ [b] (by simp [noStars, hs2]))).imp fun σ H Q h => by
    have q : tArg g W cf mk ca σ H fun x H' => rPL g (.isa [t]) [x] H' Q := tArgs_prim h
    exact tArg_mono q fun v H' z => ⟨v, rfl, z⟩
end
end PV
end

section
set_option Elab.async false
set_option linter.all false
set_option maxRecDepth 100000
set_option maxHeartbeats 1000000
/-! PV16: statements by their codes. -/
namespace PV
open PySem L2

/-- the slots ks hold what they held -/
def Keep (ks : List Nat) (σ σ' : L2.St) : Prop := ∀ j, j ∈ ks → σ'[j]? = σ[j]?
theorem Keep.refl {ks : List Nat} {σ : L2.St} : Keep ks σ σ := fun _ _ => rfl
theorem Keep.trans {ks : List Nat} {a b c : L2.St} (h : Keep ks a b) (k : Keep ks b c) : Keep ks a c := fun j hj => (k j hj).trans (h j hj)
/-- what is wanted of a statement's answer -/
def PO (g : Gx) (W : WX) (ks : List Nat) (D : Ends) (σ : L2.St) (H P : Hp) (φ : Nat → List Addr) : Out → Prop
  | .nx e => ∀ σ' H' P' φ', Rel g e σ' H' P' φ' → Step H P φ H' P' φ' → Keep ks σ σ' → D.nx σ' H'
  | .ret w d e => ∀ v σ' H' P' φ', Rel g e σ' H' P' φ' → Step H P φ H' P' φ' → Keep ks σ σ' → ρW g (fun _ => w) d v H P' H' φ' → D.rt v H'
  | .brk e => ∀ σ' H' P' φ', Rel g e σ' H' P' φ' → Step H P φ H' P' φ' → Keep ks σ σ' → D.bk σ' H'
  | .cont e => ∀ σ' H' P' φ', Rel g e σ' H' P' φ' → Step H P φ H' P' φ' → Keep ks σ σ' → D.ct σ' H'
  | .exc x e => ∀ cls dx σ' H' P' φ', Rel g e σ' H' P' φ' → Step H P φ H' P' φ' → Keep ks σ σ' → XOk g x cls dx P' H' → W cls dx σ' H'
  | .stuck => False
def tS (g : Gx) (W : WX) (cf mk : CF) (ks : List Nat) (c : S) : TS := fun D σ H => ∃ env P φ, Rel g env σ H P φ ∧ PO g W ks D σ H P φ (evS cf mk c env)
section
variable {g : Gx} {W : WX} {cf mk : CF} {ks : List Nat} {En : Ends} {σ : L2.St} {H P : Hp} {φ : Nat → List Addr} {env : Env} {α β : Type}
theorem PO.rebase {o : Out} (h : PO g W ks En σ H P φ o) {σ1 : L2.St} {H1 P1 : Hp} {φ1 : Nat → List Addr} (s : Step H P φ H1 P1 φ1) (k : Keep ks σ σ1) : PO g W ks En σ1 H1 P1 φ1 o := by
  cases o with
  | nx e => exact fun σ' H' P' φ' r st kp => h σ' H' P' φ' r (s.trans st) (k.trans kp)
  | ret w d e => exact fun v σ' H' P' φ' r st kp dn => h v σ' H' P' φ' r (s.trans st) (k.trans kp) (back_W _ _ _ _ _ _ _ (fun x z => s.back z) dn)
  | brk e => exact fun σ' H' P' φ' r st kp => h σ' H' P' φ' r (s.trans st) (k.trans kp)
  | cont e => exact fun σ' H' P' φ' r st kp => h σ' H' P' φ' r (s.trans st) (k.trans kp)
  | exc x e => exact fun cls dx σ' H' P' φ' r st kp xo => h cls dx σ' H' P' φ' r (s.trans st) (k.trans kp) xo
  | stuck => exact h
/-- an answer, then what hangs on it -/
theorem PO.onR {ρ : α → β → Hp → Hp → Hp → (Nat → List Addr) → Prop} {r : R Env (α × Env)} {f : α → Env → Out} {Q : β → Hp → Prop} (h : PO g W ks En σ H P φ (onR r f))
    (k : ∀ a env' b H' P' φ', r = .ok (a, env') → Rel g env' σ H' P' φ' → Step H P φ H' P' φ' → ρ a b H P' H' φ' → PO g W ks En σ H P φ (f a env') → Q b H') : Post g W σ H P φ ρ r Q := by
  cases r with
  | ok p => exact fun b H' P' φ' rel st hr => k p.1 p.2 b H' P' φ' rfl rel st hr h
  | exc x e => exact fun cls dx H' P' φ' rel st xo => h cls dx σ H' P' φ' rel st .refl xo
  | stuck => exact h
/-- .. from a state behind -/
theorem PO.onRat {H1 P1 : Hp} {φ1 : Nat → List Addr} {ρ : α → β → Hp → Hp → Hp → (Nat → List Addr) → Prop} {r : R Env (α × Env)} {f : α → Env → Out} {Q : β → Hp → Prop} (h : PO g W ks En σ H P φ (PV.onR r f)) (s : Step H P φ H1 P1 φ1)
    (k : ∀ a env' b H' P' φ', r = .ok (a, env') → Rel g env' σ H' P' φ' → Step H P φ H' P' φ' → Step H1 P1 φ1 H' P' φ' → ρ a b H1 P' H' φ' → PO g W ks En σ H P φ (f a env') → Q b H') : Post g W σ H1 P1 φ1 ρ r Q := by
  cases r with
  | ok p => exact fun b H' P' φ' rel st hr => k p.1 p.2 b H' P' φ' rfl rel (s.trans st) st hr h
  | exc x e => exact fun cls dx H' P' φ' rel st xo => h cls dx σ H' P' φ' rel (s.trans st) .refl xo
  | stuck => exact h
theorem PO.onO {o : Option α} {f : α → Out} (h : PO g W ks En σ H P φ (onO o f)) : ∃ a, o = some a ∧ PO g W ks En σ H P φ (f a) := by
  cases o with
  | none => exact h.elim
  | some a => exact ⟨a, rfl, h⟩
theorem PO.nx {H' P' : Hp} (h : PO g W ks En σ H P φ (.nx env)) {σ' : L2.St} {φ' : Nat → List Addr} (rel : Rel g env σ' H' P' φ') (s : Step H P φ H' P' φ') (k : Keep ks σ σ') : En.nx σ' H' := h σ' H' P' φ' rel s k
end

section
variable {X : Cx} {g : Gx} {W : WX} {cf mk : CF} {ks : List Nat} {e o tg it c : Expr} {st : Stmt} {rest sts sts2 : List Stmt} {a b s1 s2 : S} {ca cb cc ctg ci : C} {pos pos' p2 : Pos} {i j l : Nat} {x y z : Str}
theorem s_skip : PSs X [] (tS g W cf mk ks .skip) := pss_nil.imp fun D σ H ⟨env, P, φ, rel, p⟩ => p σ H P φ rel Step.refl .refl
theorem s_pass : PS X (.Pass pos) (tS g W cf mk ks .skip) := ps_pass.imp fun D σ H ⟨env, P, φ, rel, p⟩ => p σ H P φ rel Step.refl .refl
theorem s_break : PS X (.Break pos) (tS g W cf mk ks .brk) := ps_break.imp fun D σ H ⟨env, P, φ, rel, p⟩ => p σ H P φ rel Step.refl .refl
theorem s_cont : PS X (.Continue pos) (tS g W cf mk ks .cont) := ps_continue.imp fun D σ H ⟨env, P, φ, rel, p⟩ => p σ H P φ rel Step.refl .refl
theorem s_seq (h1 : PS X st (tS g W cf mk ks s1)) (h2 : PSs X rest (tS g W cf mk ks s2)) : PSs X (st :: rest) (tS g W cf mk ks (.seq s1 s2)) := by
  refine (pss_cons h1 h2).imp fun D σ H ⟨env, P, φ, rel, p⟩ => ?_
  simp only [evS] at p
  show tS g W cf mk ks s1 { D with nx := tS g W cf mk ks s2 D } σ H
  refine ⟨env, P, φ, rel, ?_⟩
  cases er : evS cf mk s1 env with
  | nx e1 =>
    rw [er] at p
    exact fun σ' H' P' φ' r s k => ⟨e1, P', φ', r, PO.rebase p s k⟩
  | _ => rw [er] at p; exact p
theorem s_expr (he : PE X e (tE g W cf mk ca)) (hs : swapsWith e none pos.line X.env = pure false) : PS X (.Expr e pos) (tS g W cf mk ks (.expr ca)) := by
  refine (ps_expr he hs).imp fun D σ H ⟨env, P, φ, rel, p⟩ => ?_
  simp only [evS] at p
  show tE g W cf mk ca σ H fun _ H1 => D.nx σ H1
  refine tE_of_tD ⟨env, P, φ, rel, PO.onR (ρ := ρD g) p ?_⟩
  intro d env' v H' P' φ' _ r s _ q
  exact q.nx r s .refl
theorem s_ret (he : PE X e (tE g W cf mk ca)) : PS X (.Return (some e) pos) (tS g W cf mk ks (.ret ca)) := by
  refine (ps_ret he).imp fun D σ H ⟨env, P, φ, rel, p⟩ => ?_
  simp only [evS] at p
  show tE g W cf mk ca σ H D.rt
  refine ⟨env, P, φ, rel, PO.onR p ?_⟩
  intro d env' v H' P' φ' _ r s hv q
  exact q v σ H' P' φ' r s .refl hv
theorem s_retN : PS X (.Return none pos) (tS g W cf mk ks .retN) := ps_retN.imp fun D σ H ⟨env, P, φ, rel, p⟩ => p .non σ H P φ rel Step.refl .refl (ρW_of_dn .non rfl)
theorem s_if (hc : PT X c (tT g W cf mk cc)) (ha : PSs X sts (tS g W cf mk ks s1)) (hb : PSs X sts2 (tS g W cf mk ks s2)) : PS X (.If c sts sts2 pos) (tS g W cf mk ks (.ife cc s1 s2)) := by
  refine (ps_if hc ha hb).imp fun D σ H ⟨env, P, φ, rel, p⟩ => ?_
  simp only [evS] at p
  show tT g W cf mk cc σ H _
  refine tT_of rel (PO.onR p ?_)
  intro d env' v H' P' φ' _ r s hv q
  split at q
  · refine ⟨true, bl_of hv, ?_⟩
    show ite (true = true) _ _
    rw [if_pos rfl]
    exact ⟨env', P', φ', r, q.rebase s .refl⟩
  · refine ⟨false, bl_of hv, ?_⟩
    show ite (false = true) _ _
    rw [if_neg Bool.false_ne_true]
    exact ⟨env', P', φ', r, q.rebase s .refl⟩
  · exact q.elim
theorem keep_set {σ : L2.St} {v : V} (h : i ∉ ks) : Keep ks σ (σ.set i (some v)) := fun j hj => List.getElem?_set_ne (fun z => h (by rw [z]; exact hj))
/-- name = value -/
theorem asg_imp {D : Ends} {σ : L2.St} {H : Hp} (hi : i ∉ ks) (h : tS g W cf mk ks (.asg i ca) D σ H) : tAsg (tE g W cf mk ca) (gName i) D σ H := by
  obtain ⟨env, P, φ, rel, p⟩ := h
  simp only [evS] at p
  show tE g W cf mk ca σ H fun x H1 => D.nx (σ.set i (some x)) H1
  refine ⟨env, P, φ, rel, PO.onR p ?_⟩
  intro d env' v H' P' φ' _ r s hv q
  obtain ⟨fp, on, nd, ap⟩ := hv
  have r' := r.setV (i := i) on nd fun a ha => ⟨(ap a ha).2.1, (ap a ha).2.2⟩
  exact q.nx r' (s.setV fun a ha => .inr (ap a ha).1) (keep_set hi)
theorem s_asg (hN : X.N.Nodup) (hi : X.N[i]? = some x) (hx : Loc X.env.scope x) (hf : X.fn x = true ∨ X.env.scope.names.lookup x = some .local) (he : PE X e (tE g W cf mk ca)) (hs : swapsWith e (some (.Name x pos')) pos.line X.env = pure false) (hk : i ∉ ks) :
    PS X (.Assign [.Name x pos'] e pos) (tS g W cf mk ks (.asg i ca)) := (ps_set hN hi hx he hs hf).imp fun D σ H h => asg_imp hk h
theorem s_asgLc {st : Stmt} (h : PS X st (tAsg (tE g W cf mk ca) (gName i))) (hk : i ∉ ks) : PS X st (tS g W cf mk ks (.asg i ca)) := h.imp fun D σ H h => asg_imp hk h
theorem keep_tgs {σ σ' : L2.St} {tg : C} (hk : ∀ j ∈ tgs tg, j ∉ ks) (h : ∀ j, j ∉ tgs tg → σ'[j]? = σ[j]?) : Keep ks σ σ' := fun j hj => h j fun z => hk j z hj
/-- (a, b, ..) = value -/
theorem s_asgT (he : PE X e (tE g W cf mk ca)) (hg : PG X tg (tG g ctg)) (hs : swapsWithSole [tg] e pos.line X.env = pure false) (hw : swappedStores [tg] e X.env = pure none) (h1 : (assignEach [tg] X.env).map (·.2) = [assign tg X.env]) (hk : ∀ j ∈ tgs ctg, j ∉ ks) :
    PS X (.Assign [tg] e pos) (tS g W cf mk ks (.asgT ctg ca)) := by
  refine (ps_asg he hg hs hw h1).imp fun D σ H ⟨env, P, φ, rel, p⟩ => ?_
  simp only [evS] at p
  show tE g W cf mk ca σ H fun x H1 => tG g ctg x σ H1 D.nx
  refine tE_of_tD ⟨env, P, φ, rel, PO.onR (ρ := ρD g) p ?_⟩
  intro d env' v H' P' φ' _ r s dn q
  obtain ⟨env2, hb, q⟩ := q.onO
  exact ⟨env', P', φ', d, env2, r, dn, hb, fun σ2 φ2 r2 f2 s2 => q.nx r2 (s.to f2) (keep_tgs hk s2)⟩
/-- what is held apart stays so -/
theorem apart_keep {w : PV.W} {d : D} {v : V} {H1 P1 H2 P2 : Hp} {φ1 φ2 : Nat → List Addr} {fp : List Addr} (on : On g P1 H1 v w d fp) (ap : ∀ a ∈ fp, P1 a = none ∧ ∀ i, a ∉ φ1 i) (s : Step H1 P1 φ1 H2 P2 φ2) : On g P2 H2 v w d fp ∧ ∀ a ∈ fp, P2 a = none ∧ ∀ i, a ∉ φ2 i := by
  have there : ∀ a ∈ fp, H1 a ≠ none := on.there
  refine ⟨on.frame s.pm fun a ha o ho => s.keep a o ho fun i => (ap a ha).2 i, fun a ha => ⟨?_, fun i hi => ?_⟩⟩
  · cases z : P2 a with
    | none => rfl
    | some o =>
      rcases s.pn a (by rw [z]; simp) with y | ⟨j, y⟩ | y
      · exact absurd (ap a ha).1 y
      · exact absurd y ((ap a ha).2 j)
      · exact absurd y (there a ha)
  · rcases s.fr i a hi with ⟨j, y⟩ | y
    · exact (ap a ha).2 j y
    · exact there a ha y
theorem s_par {px py pt : Pos} {kt k2 : Nat} {e1 e2 : Expr} (hc : X.calm = true) (hN : X.N.Nodup) (hi : X.N[i]? = some x) (hj : X.N[j]? = some y) (hij : i ≠ j) (hx : X.env.scope.names.lookup x = some .local) (hy : X.env.scope.names.lookup y = some .local)
    (h1 : PE X e1 (tE g W cf mk ca)) (h2 : PE X e2 (tE g W cf mk cb)) (n1 : isStar e1 = false) (n2 : isStar e2 = false) (hw : swappedStores [.Tuple [.Name x px, .Name y py] kt pt] (.Tuple [e1, e2] k2 p2) X.env = pure (some [x, y])) (ki : i ∉ ks) (kj : j ∉ ks) :
    PS X (.Assign [.Tuple [.Name x px, .Name y py] kt pt] (.Tuple [e1, e2] k2 p2) pos) (tS g W cf mk ks (.par i j ca cb)) := by
  refine (ps_par hc hN hi hj hij hx hy (pa_cons h1 (pa_cons h2 pa_nil (star_of _ n2)) (star_of _ n1)) hw).imp fun D σ H ⟨env, P, φ, rel, p⟩ => ?_
  simp only [evS] at p
  show tE g W cf mk ca σ H fun x H1 => tE g W cf mk cb σ H1 fun y H2 => ∃ v w, [x, y] = [v, w] ∧ D.nx ((σ.set i (some v)).set j (some w)) H2
  refine ⟨env, P, φ, rel, PO.onR p ?_⟩
  intro d1 env1 v1 H1 P1 φ1 _ r1 s1 hv1 q1
  obtain ⟨fp1, on1, nd1, ap1⟩ := hv1
  refine ⟨env1, P1, φ1, r1, PO.onRat q1 s1 ?_⟩
  intro d2 env2 v2 H2 P2 φ2 _ r2 st st2 hv2 q2
  obtain ⟨fp2, on2, nd2, ap2⟩ := hv2
  obtain ⟨on1', ap1'⟩ := apart_keep on1 (fun a ha => (ap1 a ha).2) st2
  refine ⟨v1, v2, rfl, ?_⟩
  have ra := r2.setV (i := i) on1' nd1 ap1'
  have rb := ra.setV (i := j) on2 nd2 fun a ha => ⟨(ap2 a ha).2.1, fun k hk => by
    by_cases e : k = i
    · rw [if_pos e] at hk; exact absurd (ap2 a ha).1 (on1.there a hk)
    · rw [if_neg e] at hk; exact (ap2 a ha).2.2 k hk⟩
  exact q2.nx rb ((st.setV fun a ha => .inr (ap1 a ha).1).setV fun a ha => .inr (s1.back (ap2 a ha).1)) ((keep_set ki).trans (keep_set kj))
open PySem.Spec PyProof.Rows in
/-- a, b = x, y where the stores keep their order -/
theorem ps_parU {i j : Nat} {x y : Str} {a b : Expr} {ta : TA} {px py pt : Pos} {kt k2 pt2} (hc : X.calm = true) (hN : X.N.Nodup) (hi : X.N[i]? = some x) (hj : X.N[j]? = some y)
    (hx : L2.Loc X.env.scope x) (hfx : X.fn x = true ∨ X.env.scope.names.lookup x = some .local) (hy : L2.Loc X.env.scope y) (hfy : X.fn y = true ∨ X.env.scope.names.lookup y = some .local) (ha : PA X [a, b] ta)
    (hw : swappedStores [.Tuple [.Name x px, .Name y py] kt pt] (.Tuple [a, b] k2 pt2) X.env = pure none)
    (hs : swapsWithSole [.Tuple [.Name x px, .Name y py] kt pt] (.Tuple [a, b] k2 pt2) pos.line X.env = pure false) :
    PS X (.Assign [.Tuple [.Name x px, .Name y py] kt pt] (.Tuple [a, b] k2 pt2) pos) (tPar i j ta) := by
  refine ⟨fun pins s σ H D I h => ?_⟩
  refine PySem.wpAny_Assign_stores (Tuple_ (thn (ha.run _ pins s σ H _ I h) fun us s1 ⟨vs, H1, I1, r1, q1⟩ => ?_)) hs hw
  obtain ⟨v, w, e1, q1⟩ := q1
  subst e1
  obtain ⟨u1, u2, rfl, rv, rw'⟩ : ∃ u1 u2, us = [u1, u2] ∧ RelV v u1 ∧ RelV w u2 := by
    cases r1 with
    | cons p q =>
      cases q with
      | cons p' q' =>
        cases q'
        exact ⟨_, _, rfl, p, p'⟩
  refine wpAny_newObj_type ?_ (by show 2 ≤ sizeLine; decide)
  have I2 : Inv X pins σ H1 { s1 with heap := s1.heap.push { cls := .type "tuple", data := .seq [u1, u2].toArray } } := I1.kept (t' := s1.toks) fun b o e => Heap.get?_push_of_some _ e
  show wpAny (model X.prog X.w) X.A (assign (.Tuple [.Name x px, .Name y py] kt pt) X.env (.ref s1.heap.objs.size)) _ _ _
  refine PyProof.Rows.assign_Tuple_tuple (items := #[u1, u2]) (I.ok.hd hc) (IsTup.new s1.heap _) rfl rfl fun h' hx' => ?_
  have I3 := I2.kept (h' := h') (t' := s1.toks) fun b o e => hx' b o (Nat.ne_of_lt (Heap.lt_size e)) e
  exact thn ((pgs_cons (pg_name hN hi hx hfx) (pgs_cons (pg_name hN hj hy hfy) pgs_nil)).run pins _ σ H1 [v, w] [u1, u2] _ I3 (.cons rv (.cons rw' .nil)) ⟨v, [w], rfl, w, [], rfl, rfl, q1⟩) fun _ s2 q => q
theorem s_parU {px py pt : Pos} {kt k2 : Nat} {e1 e2 : Expr} (hc : X.calm = true) (hN : X.N.Nodup) (hi : X.N[i]? = some x) (hj : X.N[j]? = some y) (hx : L2.Loc X.env.scope x) (hfx : X.fn x = true ∨ X.env.scope.names.lookup x = some .local) (hy : L2.Loc X.env.scope y) (hfy : X.fn y = true ∨ X.env.scope.names.lookup y = some .local)
    (h1 : PE X e1 (tE g W cf mk ca)) (h2 : PE X e2 (tE g W cf mk cb)) (n1 : isStar e1 = false) (n2 : isStar e2 = false) (hw : swappedStores [.Tuple [.Name x px, .Name y py] kt pt] (.Tuple [e1, e2] k2 p2) X.env = pure none) (hs : swapsWithSole [.Tuple [.Name x px, .Name y py] kt pt] (.Tuple [e1, e2] k2 p2) pos.line X.env = pure false) (ki : i ∉ ks) (kj : j ∉ ks) :
    PS X (.Assign [.Tuple [.Name x px, .Name y py] kt pt] (.Tuple [e1, e2] k2 p2) pos) (tS g W cf mk ks (.par i j ca cb)) := by
  refine (ps_parU hc hN hi hj hx hfx hy hfy (pa_cons h1 (pa_cons h2 pa_nil (star_of _ n2)) (star_of _ n1)) hw hs).imp fun D σ H ⟨env, P, φ, rel, p⟩ => ?_
  simp only [evS] at p
  show tE g W cf mk ca σ H fun x H1 => tE g W cf mk cb σ H1 fun y H2 => ∃ v w, [x, y] = [v, w] ∧ D.nx ((σ.set i (some v)).set j (some w)) H2
  refine ⟨env, P, φ, rel, PO.onR p ?_⟩
  intro d1 env1 v1 H1 P1 φ1 _ r1 s1 hv1 q1
  obtain ⟨fp1, on1, nd1, ap1⟩ := hv1
  refine ⟨env1, P1, φ1, r1, PO.onRat q1 s1 ?_⟩
  intro d2 env2 v2 H2 P2 φ2 _ r2 st st2 hv2 q2
  obtain ⟨fp2, on2, nd2, ap2⟩ := hv2
  obtain ⟨on1', ap1'⟩ := apart_keep on1 (fun a ha => (ap1 a ha).2) st2
  refine ⟨v1, v2, rfl, ?_⟩
  have ra := r2.setV (i := i) on1' nd1 ap1'
  have rb := ra.setV (i := j) on2 nd2 fun a ha => ⟨(ap2 a ha).2.1, fun k hk => by
    by_cases e : k = i
    · rw [if_pos e] at hk; exact absurd (ap2 a ha).1 (on1.there a hk)
    · rw [if_neg e] at hk; exact (ap2 a ha).2.2 k hk⟩
  exact q2.nx rb ((st.setV fun a ha => .inr (ap1 a ha).1).setV fun a ha => .inr (s1.back (ap2 a ha).1)) ((keep_set ki).trans (keep_set kj))
theorem s_par3 {px py pz pt : Pos} {kt k2 : Nat} {e1 e2 e3 : Expr} (hc : X.calm = true) (hN : X.N.Nodup) (hi : X.N[i]? = some x) (hj : X.N[j]? = some y) (hl : X.N[l]? = some z) (hij : i ≠ j) (hil : i ≠ l) (hjl : j ≠ l) (hx : X.env.scope.names.lookup x = some .local) (hy : X.env.scope.names.lookup y = some .local) (hz : X.env.scope.names.lookup z = some .local)
    (h1 : PE X e1 (tE g W cf mk ca)) (h2 : PE X e2 (tE g W cf mk cb)) (h3 : PE X e3 (tE g W cf mk cc)) (n1 : isStar e1 = false) (n2 : isStar e2 = false) (n3 : isStar e3 = false)
    (hw : swappedStores [.Tuple [.Name x px, .Name y py, .Name z pz] kt pt] (.Tuple [e1, e2, e3] k2 p2) X.env = pure (some [x, y, z])) (ki : i ∉ ks) (kj : j ∉ ks) (kl : l ∉ ks) :
    PS X (.Assign [.Tuple [.Name x px, .Name y py, .Name z pz] kt pt] (.Tuple [e1, e2, e3] k2 p2) pos) (tS g W cf mk ks (.par3 i j l ca cb cc)) := by
  refine (ps_par3 hc hN hi hj hl hij hil hjl hx hy hz (pa_cons h1 (pa_cons h2 (pa_cons h3 pa_nil (star_of _ n3)) (star_of _ n2)) (star_of _ n1)) hw).imp fun D σ H ⟨env, P, φ, rel, p⟩ => ?_
  simp only [evS] at p
  show tE g W cf mk ca σ H fun x H1 => tE g W cf mk cb σ H1 fun y H2 => tE g W cf mk cc σ H2 fun z H3 => ∃ u v w, [x, y, z] = [u, v, w] ∧ D.nx (((σ.set i (some u)).set j (some v)).set l (some w)) H3
  refine ⟨env, P, φ, rel, PO.onR p ?_⟩
  intro d1 env1 v1 H1 P1 φ1 _ r1 s1 hv1 q1
  obtain ⟨fp1, on1, nd1, ap1⟩ := hv1
  refine ⟨env1, P1, φ1, r1, PO.onRat q1 s1 ?_⟩
  intro d2 env2 v2 H2 P2 φ2 _ r2 st2 t12 hv2 q2
  obtain ⟨fp2, on2, nd2, ap2⟩ := hv2
  obtain ⟨on1', ap1'⟩ := apart_keep on1 (fun a ha => (ap1 a ha).2) t12
  refine ⟨env2, P2, φ2, r2, PO.onRat q2 st2 ?_⟩
  intro d3 env3 v3 H3 P3 φ3 _ r3 st3 t23 hv3 q3
  obtain ⟨fp3, on3, nd3, ap3⟩ := hv3
  obtain ⟨on1'', ap1''⟩ := apart_keep on1' ap1' t23
  obtain ⟨on2'', ap2''⟩ := apart_keep on2 (fun a ha => (ap2 a ha).2) t23
  refine ⟨v1, v2, v3, rfl, ?_⟩
  have ra := r3.setV (i := i) on1'' nd1 ap1''
  have rb := ra.setV (i := j) on2'' nd2 fun a ha => ⟨(ap2'' a ha).1, fun k hk => by
    by_cases e : k = i
    · rw [if_pos e] at hk; exact absurd (ap2 a ha).1 (on1.there a hk)
    · rw [if_neg e] at hk; exact (ap2'' a ha).2 k hk⟩
  have rc := rb.setV (i := l) on3 nd3 fun a ha => ⟨(ap3 a ha).2.1, fun k hk => by
    by_cases e : k = j
    · rw [if_pos e] at hk; exact absurd (ap3 a ha).1 (on2.there a hk)
    · rw [if_neg e] at hk
      by_cases e' : k = i
      · rw [if_pos e'] at hk; exact absurd (ap3 a ha).1 (on1'.there a hk)
      · rw [if_neg e'] at hk; exact (ap3 a ha).2.2 k hk⟩
  exact q3.nx rc (((st3.setV fun a ha => .inr (ap1 a ha).1).setV fun a ha => .inr (s1.back (ap2 a ha).1)).setV fun a ha => .inr (st2.back (ap3 a ha).1)) (((keep_set ki).trans (keep_set kj)).trans (keep_set kl))

/-! ### loops -/
theorem PO.turn {g : Gx} {W : WX} {D : Ends} {σ : L2.St} {H P : Hp} {φ : Nat → List Addr} {o : Out} {f : Env → Out} {N : L2.St → Hp → Prop} (h : PO g W ks D σ H P φ (o.turn f))
    (hN : ∀ e σ' H' P' φ', Rel g e σ' H' P' φ' → PO g W ks D σ' H' P' φ' (f e) → Step H P φ H' P' φ' → N σ' H') : PO g W ks { D with nx := N, ct := N, bk := D.nx } σ H P φ o := by
  cases o with
  | nx e => exact fun σ' H' P' φ' r s k => hN e σ' H' P' φ' r (PO.rebase h s k) s
  | cont e => exact fun σ' H' P' φ' r s k => hN e σ' H' P' φ' r (PO.rebase h s k) s
  | brk e => exact h
  | ret w d e => exact h
  | exc x e => exact h
  | stuck => exact h
theorem s_for {pos : Pos} (hp : PassesOwn (model X.prog X.w) X.A X.env X.xe) (hc : X.calm = true) (hi : PI X tg it (tI g W cf mk ci)) (hg : PG X tg (tG g ctg)) (hb : PSs X sts (tS g W cf mk ks s1)) (hs : ∀ x, foldedSetIterable it X.env x = pure x) (hk : ∀ j ∈ tgs ctg, j ∉ ks) :
    PS X (.For tg it sts [] pos) (tS g W cf mk ks (.forIn ctg ci s1)) := by
  refine (ps_for hp hc hi hg hb hs).imp fun D σ H ⟨env, P, φ, rel, p⟩ => ?_
  simp only [evS] at p
  show tI g W cf mk ci σ H _
  refine ⟨env, P, φ, rel, PO.onR p ?_⟩
  intro ds env1 J H1 P1 φ1 _ r1 st1 wk q1
  have q1 := q1.rebase st1 .refl
  obtain ⟨G, Y, w, hG, hY⟩ := wk
  refine for_it w (fun i σ H => ∃ e P φ, Rel g e σ H P φ ∧ Sub P1 P ∧ PO g W ks D σ H P φ (forL (fun d e => onO (bindT ctg d e) (evS cf mk s1)) (ds.drop i) e)) ⟨env1, P1, φ1, r1, Sub.refl _, q1⟩ ?_ ?_ ?_
  · rintro i σ H hi ⟨e, P, φ, r, s, _⟩
    exact hG H P s r.sub
  · rintro i x σ H H' hi ⟨e, P, φ, r, s, q⟩ y
    obtain ⟨P', d, gr, hd, dn⟩ := hY i H P x H' hi s r.sub y
    have edrop : ds.drop i = d :: ds.drop (i + 1) := by
      obtain ⟨hlt, e1⟩ := List.getElem?_eq_some_iff.mp hd
      rw [List.drop_eq_getElem_cons hlt, e1]
    rw [edrop] at q
    unfold forL at q
    have r' := r.grow gr
    have q' := q.rebase gr.step .refl
    cases hb : bindT ctg d e with
    | none => rw [hb] at q'; exact q'.elim
    | some e2 =>
      rw [hb] at q'
      refine ⟨e, P', φ, d, e2, r', dn, hb, fun σ2 φ2 r2 f2 s2 => ⟨e2, P', φ2, r2, ?_⟩⟩
      have q2 := q'.rebase (Step.refl.to f2) (keep_tgs hk s2)
      exact PO.turn (f := forL (fun d e => onO (bindT ctg d e) (evS cf mk s1)) (ds.drop (i + 1))) q2 fun e3 σ3 H3 P3 φ3 r3 q3 st3 => ⟨e3, P3, φ3, r3, (s.trans gr.pm).trans st3.pm, q3⟩
  · rintro σ H ⟨e, P, φ, r, s, q⟩
    rw [List.drop_length] at q
    exact q.nx r Step.refl .refl
theorem s_while (hp : PassesOwn (model X.prog X.w) X.A X.env X.xe) (hc : PT X c (tT g W cf mk cc)) (hb : PSs X sts (tS g W cf mk ks s1)) : PS X (.While c sts [] pos) (tS g W cf mk ks (.whil cc s1)) := by
  refine (ps_while hp hc hb).imp fun D σ H ⟨env, P, φ, rel, p⟩ => ?_
  simp only [evS] at p
  generalize turnsMost = M at p
  refine ⟨fun m σ H => ∃ e P φ, Rel g e σ H P φ ∧ PO g W ks D σ H P φ (whileL (evE cf mk cc) (evS cf mk s1) m e), ⟨M, env, P, φ, rel, p⟩, ?_⟩
  rintro m σ H ⟨e, P, φ, r, q⟩
  cases m with
  | zero => exact q.elim
  | succ m =>
    unfold whileL at q
    refine tT_of r (PO.onR q ?_)
    intro d env' v H' P' φ' _ r' s hv q'
    have q' := q'.rebase s .refl
    split at q'
    · refine ⟨true, bl_of hv, ?_⟩
      show ite (true = true) _ _
      rw [if_pos rfl]
      refine ⟨fun σ' H' => ∃ e P φ, Rel g e σ' H' P φ ∧ PO g W ks D σ' H' P φ (whileL (evE cf mk cc) (evS cf mk s1) m e), fun σ' H' h => ⟨m, Nat.lt_succ_self _, h⟩, env', P', φ', r', ?_⟩
      exact PO.turn (f := whileL (evE cf mk cc) (evS cf mk s1) m) q' fun e3 σ3 H3 P3 φ3 r3 q3 st3 => ⟨e3, P3, φ3, r3, q3⟩
    · refine ⟨false, bl_of hv, ?_⟩
      show ite (false = true) _ _
      rw [if_neg Bool.false_ne_true]
      exact q'.nx r' Step.refl .refl
    · exact q'.elim
end
end PV
end

section
set_option Elab.async false
set_option linter.all false
set_option maxRecDepth 100000
set_option maxHeartbeats 1000000
/-! PV17: statements that change one's own lists and dicts. -/
namespace PV
open PySem L2

section
variable {X : Cx} {g : Gx} {W : WX} {cf mk : CF} {ks : List Nat} {e o tg it c ix : Expr} {st : Stmt} {rest sts sts2 : List Stmt} {a b s1 s2 : S} {ca cb cc ctg ci : C} {pos pos' p2 apos cpos tpos : Pos} {i j l : Nat} {x y z : Str}
theorem s_append (ho : PE X o (tVar i)) (ha : PE X e (tE g W cf mk ca)) (hs : isStar e = false) (hbase : attributeBase o "append" X.env (eval o X.env) = eval o X.env) (hline : (apos.endLine == cpos.line) = true) :
    PS X (.Expr (.Call (.Attribute o "append" apos) [e] [] cpos) pos) (tS g W cf mk ks (.append i [] ca)) := by
  refine (ps_expr (pe_bm (t := tCons (tE g W cf mk ca) tNil) PySem.F.plainAttrs_list PySem.F.slot_list_append PySem.F.type_list_append mt_append ho (pa_cons ha pa_nil (star_of _ hs)) hbase (few1 hs) hline (star_of _ hs) rfl)).imp fun D σ H ⟨env, P, φ, rel, p⟩ => ?_
  simp only [evS] at p
  split at p
  · rename_i ds0 h1 h2
    obtain ⟨a, xs, ev, hH, n, hf⟩ := rel.own_lst (slot_lst h1 h2)
    refine ⟨_, ev, .inl ⟨rfl, xs, SqL.of hH⟩, ?_⟩
    refine tE_of_tD ⟨env, P, φ, rel, PO.onR (ρ := ρD g) p ?_⟩
    intro d env1 v H1 P1 φ1 er rel1 st1 hd k
    have k := k.rebase st1 .refl
    split at k
    · rename_i ds h3 h4
      have e := slot_lst h3 h4
      obtain ⟨a', xs', ev', hH', n', hf'⟩ := rel1.own_lst e
      rw [ev] at ev'
      cases ev'
      split at k
      · rename_i hl
        rw [putP_nil e] at k
        have k : PO g W ks D σ H1 P1 φ1 (.nx (env1.set i (some (.own .frz, .lst (ds ++ [d]))))) := k
        refine ⟨a, xs', v, rfl, rfl, hH', by rw [n'.length, ← lim_eq]; exact hl, ?_⟩
        exact k.nx (rel1.put_lst ev hf' (n'.append (.cons hd .nil))) (Step.write (i := i) (by rw [hf']; exact List.mem_cons_self)) .refl
      · exact k.elim
    · exact k.elim
  · exact p.elim
theorem s_extend (ho : PE X o (tVar i)) (ha : PE X e (tE g W cf mk ca)) (hs : isStar e = false) (hbase : attributeBase o "extend" X.env (eval o X.env) = eval o X.env) (hline : (apos.endLine == cpos.line) = true) :
    PS X (.Expr (.Call (.Attribute o "extend" apos) [e] [] cpos) pos) (tS g W cf mk ks (.extend i [] ca)) := by
  refine (ps_expr (pe_bm (t := tCons (tE g W cf mk ca) tNil) PySem.F.plainAttrs_list PySem.F.slot_list_extend PySem.F.type_list_extend mt_extend ho (pa_cons ha pa_nil (star_of _ hs)) hbase (few1 hs) hline (star_of _ hs) rfl)).imp fun D σ H ⟨env, P, φ, rel, p⟩ => ?_
  simp only [evS] at p
  split at p
  · rename_i ds0 h1 h2
    obtain ⟨a, xs, ev, hH, n, hf⟩ := rel.own_lst (slot_lst h1 h2)
    refine ⟨_, ev, .inl ⟨rfl, xs, SqL.of hH⟩, ?_⟩
    refine ⟨env, P, φ, rel, PO.onR p ?_⟩
    intro d env1 v H1 P1 φ1 er rel1 st1 hd k
    have k := k.rebase st1 .refl
    split at k
    · rename_i ds ys h3 h4 h6 h5
      have e := slot_lst h3 h4
      obtain ⟨a', xs', ev', hH', n', hf'⟩ := rel1.own_lst e
      rw [ev] at ev'
      cases ev'
      obtain ⟨fp, on, nd, ap⟩ := hd
      rw [h5] at on
      cases on with
      | @lst b _ zs _ f2 hb nn =>
        have nz := nn.frz.1
        split at k
        · rename_i hl
          rw [putP_nil e] at k
          have k : PO g W ks D σ H1 P1 φ1 (.nx (env1.set i (some (.own .frz, .lst (ds ++ ys))))) := k
          refine ⟨a, b, xs', zs, rfl, rfl, hH', hb, by rw [n'.length, nz.length, ← lim_eq]; exact hl, ?_⟩
          exact k.nx (rel1.put_lst ev hf' (n'.append nz)) (Step.write (i := i) (by rw [hf']; exact List.mem_cons_self)) .refl
        · exact k.elim
    · exact k.elim
  · exact p.elim
/-- o[i] = v -/
theorem PSet.or {t t' : TSet} (h : PSet X t) (h' : PSet X t') : PSet X (fun o i v H Q => t o i v H Q ∨ t' o i v H Q) := by
  intro pins s σ H o i v ov iv u Q I ro ri rv q
  rcases q with q | q
  · exact h pins s σ H o i v ov iv u Q I ro ri rv q
  · exact h' pins s σ H o i v ov iv u Q I ro ri rv q
theorem assign_sub (v : Value) : assign (.Subscript o ix tpos) X.env v = (do
      let ov ← holding [v] (eval o X.env)
      let iv ← holding [v, ov] (eval ix X.env)
      standAt tpos
      holding [v, ov, iv] (setItem ov iv v)
      release (match ix with | .Slice _ _ none _ => [iv, v, ov] | _ => [v, ov, iv]) []) := rfl
def isSlice : Expr → Bool
  | .Slice _ _ _ _ => true
  | _ => false
theorem assign_sub' (h : isSlice ix = false) (v : Value) : assign (.Subscript o ix tpos) X.env v = (do
      let ov ← holding [v] (eval o X.env)
      let iv ← holding [v, ov] (eval ix X.env)
      standAt tpos
      holding [v, ov, iv] (setItem ov iv v)
      release [v, ov, iv] []) := by
  rw [assign_sub]
  cases ix <;> first | rfl | cases h
/-- what a store gives, by the slot's thing -/
def tSet2 (i : Nat) (g : Gx) : TSet := fun o k v H Q => rSetL o k v H Q ∨ rSetD o k v H Q
theorem put_of {σ : L2.St} {H P : Hp} {φ : Nat → List Addr} {env env' : Env} {xd kd : D} {v w ov : V} {Q : Hp → Prop} (rel : Rel g env σ H P φ) (hx : Dn g P v xd) (hw : Dn g P w kd) (ev : σ[i]? = some (some ov)) (q : storeIx env i [] kd xd = some env')
    (k : ∀ H', Rel g env' σ H' P φ → Step H P φ H' P φ → Q H') : tSet2 i g ov w v H Q := by
  unfold storeIx at q
  split at q
  · rename_i ds h3 h4
    have e := slot_lst h3 h4
    obtain ⟨a, xs, ev', hH, n', hf⟩ := rel.own_lst e
    rw [ev] at ev'
    cases ev'
    cases kd with
    | int n =>
      cases hw
      obtain ⟨m, hm, q⟩ := Option.bind_eq_some_iff.mp q
      rw [putP_nil e] at q
      cases q
      refine .inl ⟨a, xs, n, m, rfl, rfl, hH, by rw [n'.length]; exact hm, ?_⟩
      exact k _ (rel.put_lst ev hf (n'.set hx m)) (Step.write (i := i) (by rw [hf]; exact List.mem_cons_self))
    | _ => cases q
  · rename_i kk vs h3 h4
    have e := slot_dct h3 h4
    obtain ⟨a, kvs, ev', hH, rfl, nn, n', hf⟩ := rel.own_dct e
    rw [ev] at ev'
    cases ev'
    split at q
    · rename_i ok
      simp only [Bool.and_eq_true, decide_eq_true_eq] at ok
      obtain ⟨kk, rfl⟩ := keyS_kD ok.1
      have ek := hw.key
      subst ek
      obtain ⟨e1, e2⟩ := put_at kk v xd hx kvs vs n' nn
      simp only [e1] at q
      rw [putP_nil e] at q
      cases q
      refine .inr ⟨a, _, rfl, DPut.k hH (by have := ok.2; rw [List.length_map] at this; rw [← lim_eq]; exact this), ?_⟩
      exact k _ (rel.put_dct ev hf (nodup_put kk v nn) e2) (Step.write (i := i) (by rw [hf]; exact List.mem_cons_self))
    · cases q
  · cases q
theorem slot_some {σ : L2.St} {H P : Hp} {φ : Nat → List Addr} {env : Env} (rel : Rel g env σ H P φ) (h : (getV env i).isSome = true) : ∃ ov, σ[i]? = some (some ov) := by
  unfold getV at h
  split at h
  · rename_i w d e
    obtain ⟨v, ev, _⟩ := rel.on i w d e
    exact ⟨v, ev⟩
  · cases h
theorem pset2 (hu : X.A.units + 1 < cLine) : PSet X (tSet2 i g) := PSet.or set_list (set_dict hu)
/-- name[ix] = e -/
theorem s_setIx (hu : X.A.units + 1 < cLine) (ho : PE X o (tVar i)) (hi : PE X ix (tE g W cf mk cb)) (he : PE X e (tE g W cf mk ca)) (hsl : isSlice ix = false) (hs : swapsWithSole [.Subscript o ix tpos] e pos.line X.env = pure false) (hw : swappedStores [.Subscript o ix tpos] e X.env = pure none) :
    PS X (.Assign [.Subscript o ix tpos] e pos) (tS g W cf mk ks (.setIx i [] cb ca)) := by
  refine (ps_asg he (pg_sub ho hi (pset2 (i := i) (g := g) hu) (assign_sub' hsl)) hs hw rfl).imp fun D σ H ⟨env, P, φ, rel, p⟩ => ?_
  simp only [evS] at p
  refine tE_of_tD ⟨env, P, φ, rel, PO.onR (ρ := ρD g) p ?_⟩
  intro xd env1 v H1 P1 φ1 er rel1 st1 hx q1
  show tVar i σ H1 fun o H2 => tE g W cf mk cb σ H2 fun k H3 => tSet2 i g o k v H3 fun H4 => D.nx σ H4
  have q1 := q1.rebase st1 .refl
  split at q1
  · rename_i hs
    obtain ⟨ov, ev⟩ := slot_some rel1 hs
    refine ⟨ov, ev, tE_of_tD ⟨env1, P1, φ1, rel1, PO.onR (ρ := ρD g) q1 ?_⟩⟩
    intro kd env2 w H2 P2 φ2 er2 rel2 st2 hk q2
    obtain ⟨env', e3, q2⟩ := (q2.rebase st2 .refl).onO
    exact put_of rel2 (hx.mono st2.pm) hk ev e3 fun H' r s => q2.nx r s .refl
  · exact q1.elim
/-- name[ix], other = e -/
theorem s_setIxT {kt : Nat} {py pt : Pos} (hK : X.K = g.K) (hc : X.calm = true) (hu : X.A.units + 1 < cLine) (ho : PE X o (tVar i)) (hi : PE X ix (tE g W cf mk cb)) (he : PE X e (tE g W cf mk ca)) (hsl : isSlice ix = false)
    (hN : X.N.Nodup) (hj : X.N[j]? = some y) (hy : Loc X.env.scope y) (hf : X.fn y = true ∨ X.env.scope.names.lookup y = some .local) (kj : j ∉ ks)
    (hs : swapsWithSole [.Tuple [.Subscript o ix tpos, .Name y py] kt pt] e pos.line X.env = pure false) (hw : swappedStores [.Tuple [.Subscript o ix tpos, .Name y py] kt pt] e X.env = pure none) :
    PS X (.Assign [.Tuple [.Subscript o ix tpos, .Name y py] kt pt] e pos) (tS g W cf mk ks (.setIxT i cb j ca)) := by
  refine (ps_asg he (pg_tup hc (pgs_cons (pg_sub ho hi (pset2 (i := i) (g := g) hu) (assign_sub' hsl)) (pgs_cons (pg_name hN hj hy hf) pgs_nil rfl) rfl) (n := 2) rfl rfl) hs hw rfl).imp fun D σ H ⟨env, P, φ, rel, p⟩ => ?_
  simp only [evS] at p
  refine tE_of_tD ⟨env, P, φ, rel, PO.onR (ρ := ρD g) p ?_⟩
  intro pd env1 pv H1 P1 φ1 er rel1 st1 hp q1
  have q1 := q1.rebase st1 .refl
  split at q1
  · rename_i xd yd
    cases hp with
    | @tup a xs _ hs2 n =>
      cases n with
      | @cons v _ _ _ hx n => cases n with
        | @cons v2 _ _ _ hy2 n =>
          cases n
          refine ⟨a, _, rfl, by rw [hK]; exact sqT_mono rel1.sub hs2, rfl, v, _, rfl, ?_⟩
          split at q1
          · rename_i hs
            obtain ⟨ov, ev⟩ := slot_some rel1 hs
            refine ⟨ov, ev, tE_of_tD ⟨env1, P1, φ1, rel1, PO.onR (ρ := ρD g) q1 ?_⟩⟩
            intro kd env2 w H2 P2 φ2 er2 rel2 st2 hk q2
            obtain ⟨env', e3, q2⟩ := (q2.rebase st2 .refl).onO
            refine put_of rel2 (hx.mono st2.pm) hk ev e3 fun H' r s => ⟨v2, [], rfl, rfl, ?_⟩
            exact q2.nx (r.setV (.frz (hy2.mono st2.pm)) List.nodup_nil fun a ha => by simp at ha) (s.setV fun a ha => by simp at ha) (keep_set kj)
          · exact q1.elim
  · exact q1.elim
end
end PV
end

section
set_option Elab.async false
set_option linter.all false
set_option maxRecDepth 100000
set_option maxHeartbeats 1000000
/-! PV18: a def by its code. -/
namespace PV
open PySem L2

/-! ### arguments behind the body -/
/-- places of what a def may change -/
def ownIx : Nat → List PV.W → List Nat
  | _, [] => []
  | i, w :: r => if w.isFrz then ownIx (i + 1) r else i :: ownIx (i + 1) r
theorem mem_ownIx : ∀ {ws : List PV.W} {i j : Nat} {w : PV.W}, ws[j]? = some w → w.isFrz = false → i + j ∈ ownIx i ws
  | [], _, _, _, h, _ => by simp at h
  | w :: r, i, 0, _, h, hw => by
    simp at h; subst h
    simp [ownIx, hw]
  | w :: r, i, j + 1, w', h, hw => by
    have ih := mem_ownIx (i := i + 1) (j := j) (ws := r) (by simpa using h) hw
    have e : i + 1 + j = i + (j + 1) := by omega
    rw [e] at ih
    unfold ownIx
    split
    · exact ih
    · exact List.mem_cons_of_mem _ ih
theorem ownIx_mem : ∀ {ws : List PV.W} {i k : Nat}, k ∈ ownIx i ws → ∃ j w, k = i + j ∧ ws[j]? = some w ∧ w.isFrz = false
  | [], _, _, h => by simp [ownIx] at h
  | w :: r, i, k, h => by
    unfold ownIx at h
    split at h
    · obtain ⟨j, w', h1, h2, h3⟩ := ownIx_mem h
      exact ⟨j + 1, w', by omega, by simpa using h2, h3⟩
    · rename_i hw
      rcases List.mem_cons.mp h with rfl | h
      · exact ⟨0, w, rfl, by simp, by simpa using hw⟩
      · obtain ⟨j, w', h1, h2, h3⟩ := ownIx_mem h
        exact ⟨j + 1, w', by omega, by simpa using h2, h3⟩
theorem outs_get : ∀ {ws : List PV.W} {as : List D} {env : Env} {o : List D}, outsOf ws as env = some o → o.length = ws.length ∧ as.length = ws.length ∧
    ∀ (j : Nat) (w : PV.W) (d : D), (argEnv ws o)[j]? = some (some (w, d)) → (w = .frz ∧ as[j]? = some d) ∨ (w.isFrz = false ∧ ws[j]? = some w ∧ env[j]? = some (some (w, d)))
  | [], as, env, o, h => by
    cases as with
    | nil =>
      simp only [outsOf, Option.some.injEq] at h
      subst h
      exact ⟨rfl, rfl, fun j w d h => by simp [argEnv] at h⟩
    | cons => simp [outsOf] at h
  | w :: ws, [], env, o, h => by cases w <;> simp [outsOf] at h
  | w :: ws, a :: as, env, o, h => by
    by_cases hw : w.isFrz = true
    · have ew : w = .frz := by cases w <;> first | rfl | cases hw
      subst ew
      simp only [outsOf] at h
      obtain ⟨o', h', rfl⟩ := Option.map_eq_some_iff.mp h
      obtain ⟨l1, l2, k⟩ := outs_get h'
      refine ⟨by simp [l1], by simp [l2], fun j w d e => ?_⟩
      cases j with
      | zero =>
        simp [argEnv] at e
        obtain ⟨rfl, rfl⟩ := e
        exact .inl ⟨rfl, by simp⟩
      | succ j =>
        rcases k j w d (by simpa [argEnv] using e) with ⟨h1, h2⟩ | ⟨h1, h2, h3⟩
        · exact .inl ⟨h1, by simpa using h2⟩
        · exact .inr ⟨h1, by simpa using h2, by
            cases env with
            | nil => simp at h3
            | cons e0 er => simpa using h3⟩
    · have hw' : w.isFrz = false := by simpa using hw
      cases env with
      | nil => cases w <;> first | (exact absurd rfl hw) | simp [outsOf] at h
      | cons e0 er =>
        cases e0 with
        | none => cases w <;> first | (exact absurd rfl hw) | simp [outsOf] at h
        | some wd =>
          obtain ⟨w', d'⟩ := wd
          have h2 : (if W.same w w' then (outsOf ws as er).map (d' :: ·) else none) = some o := by
            cases w <;> first | (exact absurd rfl hw) | (simpa only [outsOf] using h)
          split at h2
          · rename_i hs
            have es := PV.W.same_eq _ _ hs
            subst es
            obtain ⟨o', h', rfl⟩ := Option.map_eq_some_iff.mp h2
            obtain ⟨l1, l2, k⟩ := outs_get h'
            refine ⟨by simp [l1], by simp [l2], fun j w2 d e => ?_⟩
            cases j with
            | zero =>
              simp [argEnv] at e
              obtain ⟨rfl, rfl⟩ := e
              exact .inr ⟨hw', by simp, by simp⟩
            | succ j =>
              rcases k j w2 d (by simpa [argEnv] using e) with ⟨h1, h2⟩ | ⟨h1, h2, h3⟩
              · exact .inl ⟨h1, by simpa using h2⟩
              · exact .inr ⟨h1, by simpa using h2, by simpa using h3⟩
          · cases h2
section
variable {g : Gx} {H P H' P' : Hp} {ψ φ' : Nat → List Addr} {vs : List V} {args o : List D} {ws : List PV.W} {e : Env} {σ' : L2.St} {m n : Nat}
/-- the arguments as the body leaves them -/
theorem outs_rel' (r0 : Rel g (argEnv ws args) (vs.map some) H P ψ) (r : Rel g e σ' H' P' φ') (s : Step H P (fun j => ψ j) H' P' φ') (k : Keep (ownIx 0 ws) (vs.map some ++ List.replicate m none) σ') (h : outsOf ws args e = some o) :
    ∃ ψ', Rel g (argEnv ws o) (vs.map some) H' P' ψ' ∧ Step H P ψ H' P' ψ' ∧ ∀ i a, a ∈ ψ' i → ∃ j, a ∈ φ' j := by
  obtain ⟨l1, l2, kk⟩ := outs_get h
  have lv : vs.length = ws.length := by have := r0.len; simp only [argEnv, List.length_map, List.length_zip] at this; omega
  refine ⟨fun j => if j ∈ ownIx 0 ws then φ' j else [], ⟨?_, fun j w d hj => ?_, fun j => ?_, fun i j a hi hj => ?_, fun j a hj => ?_, fun j a hj => ?_, r.sub⟩, s.to fun j a hj => ?_, fun j a hj => ?_⟩
  · simp only [argEnv, List.length_map, List.length_zip]; omega
  · rcases kk j w d hj with ⟨rfl, h2⟩ | ⟨h1, h2, h3⟩
    · have hlt : j < ws.length := by
        rcases Nat.lt_or_ge j args.length with q | q
        · omega
        · rw [List.getElem?_eq_none q] at h2; cases h2
      have hw : ws[j]? = some .frz := by
        unfold argEnv at hj
        rw [List.getElem?_map] at hj
        cases q : (ws.zip o)[j]? with
        | none => rw [q] at hj; cases hj
        | some p =>
          rw [q] at hj
          cases hj
          rw [List.getElem?_zip_eq_some] at q
          exact q.1
      obtain ⟨v, ev, on⟩ := r0.on j .frz d (by unfold argEnv; rw [List.getElem?_map, (List.getElem?_zip_eq_some (z := (PV.W.frz, d))).mpr ⟨hw, h2⟩]; rfl)
      refine ⟨v, ev, ?_⟩
      have dn := on.frz'.1.mono s.pm
      have ni : j ∉ ownIx 0 ws := fun hm => by
        obtain ⟨j', w', e1, e2, e3⟩ := ownIx_mem hm
        rw [Nat.zero_add] at e1
        subst e1
        rw [hw] at e2
        cases e2
        cases e3
      rw [if_neg ni]
      exact .frz dn
    · have hm : j ∈ ownIx 0 ws := by have := mem_ownIx (i := 0) h2 h1; rwa [Nat.zero_add] at this
      obtain ⟨v, ev, on⟩ := r.on j w d h3
      have ek := k j hm
      have hlt : j < vs.length := by
        rcases Nat.lt_or_ge j ws.length with q | q
        · omega
        · rw [List.getElem?_eq_none q] at h2; cases h2
      rw [List.getElem?_append_left (by simpa using hlt)] at ek
      refine ⟨v, by rw [← ek]; exact ev, ?_⟩
      rw [if_pos hm]
      exact on
  · split
    · exact r.nd j
    · exact List.nodup_nil
  · split at hi
    · split at hj
      · exact r.dj i j a hi hj
      · simp at hj
    · simp at hi
  · split at hj
    · exact r.ap j a hj
    · simp at hj
  · split at hj
    · exact r.tr j a hj
    · simp at hj
  · split at hj
    · exact ⟨j, hj⟩
    · simp at hj
  · have hj : a ∈ (if j ∈ ownIx 0 ws then φ' j else []) := hj
    split at hj
    · exact ⟨j, hj⟩
    · simp at hj
theorem outs_rel (r0 : Rel g (argEnv ws args) (vs.map some) H P ψ) (r : Rel g e σ' H' P' φ') (s : Step H P (fun j => ψ j) H' P' φ') (k : Keep (ownIx 0 ws) (vs.map some ++ List.replicate m none) σ') (h : outsOf ws args e = some o) :
    ∃ ψ', Rel g (argEnv ws o) (vs.map some) H' P' ψ' ∧ Step H P ψ H' P' ψ' := let ⟨a, b, c, _⟩ := outs_rel' r0 r s k h; ⟨a, b, c⟩
end

/-! ### a def's body keeps its promise -/
theorem start_rel {g : Gx} {H P : Hp} {ψ : Nat → List Addr} {vs : List V} {args : List D} {ws : List PV.W} (N : List Str) (r : Rel g (argEnv ws args) (vs.map some) H P ψ) (hl : args.length = ws.length) (n : Nat) (hn : N.length - vs.length = n) :
    Rel g (argEnv ws args ++ List.replicate n none) (L2.start N vs) H P ψ := by
  refine ⟨?_, fun i w d h => ?_, r.nd, r.dj, r.ap, r.tr, r.sub⟩
  · unfold L2.start
    have := r.len
    simp only [List.length_append, List.length_replicate, this, hn]
  · by_cases hi : i < (argEnv ws args).length
    · rw [List.getElem?_append_left hi] at h
      obtain ⟨v, e, on⟩ := r.on i w d h
      refine ⟨v, ?_, on⟩
      unfold L2.start
      rw [List.getElem?_append_left (by rw [r.len]; exact hi)]
      exact e
    · rw [List.getElem?_append_right (by omega), List.getElem?_replicate] at h
      split at h <;> cases h
/-- a def in a context of its own -/
def FnCx (P : Program) (w : World) (K : PySem.W.Frag) (mg : Str → Option Value) (base : Heap) (N : List Str) (sc : Scope) (n : Nat) (X : Cx) (W : WX) : Prop :=
  X.prog = P ∧ X.w = w ∧ X.K = K ∧ X.mg = mg ∧ X.base = base ∧ X.N = N ∧ X.env.scope = sc ∧ X.calm = true ∧ (∀ x, X.fn x = true) ∧ X.A.guards = some [] ∧ Room n X.A ∧ Takes X W ∧ PassesOwn (model X.prog X.w) X.A X.env X.xe
theorem fnG_of {P : Program} {w : World} {K : PySem.W.Frag} {mg : Str → Option Value} {base : Heap} {x qual : Str} {st : Stmt} {f : Addr} {fd : FuncData} {N ps : List Str} {n : Nat} {sp : Sp} (F : Fun K x qual st f fd) (S : FnScope N ps (defScope st)) (len : ∀ vs H Q E, sp vs H Q E → vs.length = ps.length)
    (hbody : ∀ (X : Cx) (H : Hp) (vs : List V) (Q : VK) (E : XK), FnCx P w K mg base N (defScope st) n X (fun cls dx _ H' => E cls dx H') → sp vs H Q E → ∃ t, PSs X (defBody st) t ∧ t { nx := fun _ H' => Q .non H', rt := Q } (L2.start N vs) H) : FnG P w K mg base (n + 1) f fd ps sp := by
  obtain ⟨oc, od, kV, doc, pm, an, cdv, ct, osl, rfl, lk, hcd⟩ := F.ex
  refine ⟨len, fun A outer s H args us vs Q E hgu hr e0 hb r hsp => ?_⟩
  have hl := len _ _ _ _ hsp
  have KX : K.In s.heap := e0.mod.kin.keeps fun b o e => (e0.bs b o e).1
  have lim : s.heap.NoLimit := e0.mod.nolimit.keeps fun b o e => (e0.bs b o e).1
  have hkind : ∀ y ∈ ps.zip us, (defScope st).names.lookup y.1 = some .local ∨ ((defScope st).names.lookup y.1 = some .cell ∧ ((cellsFrom (s.heap.objs.size + 1) (defScope st).names []).lookup y.1).isSome = true) := fun ⟨n, v⟩ hy => by
    rcases S.par n (List.of_mem_zip hy).1 with q | q
    · exact .inl q
    · exact .inr ⟨q, PySem.W.cellsFrom_some _ _ _ (.inl q)⟩
  refine codeAny_call_function hr.depth (KX _ _ lk) rfl S.co S.gen rfl (PySem.W.codeRec_of KX hcd) (hb _ _ _ _ ?_)
  refine wpAny_newFunctionEnv_cells S.kind hkind fun env he s1 x => ?_
  subst he
  refine ⟨lim.keeps x.toInCall.keep, codeAny_func ?_⟩
  have fx : FnCx P w K mg base N (defScope st) n (cxOf (L2.CX P w) P w K mg base N qual (defScope st) f cdv A outer s H E) (fun cls dx _ H' => E cls dx H') :=
    ⟨rfl, rfl, rfl, rfl, rfl, rfl, rfl, rfl, fun _ => rfl, hgu, hr.deeper _, takes_of rfl rfl rfl rfl, passes_of rfl⟩
  obtain ⟨t, ht, hq⟩ := hbody _ H vs Q E fx hsp
  have I : Inv (cxOf (L2.CX P w) P w K mg base N qual (defScope st) f cdv A outer s H E) [] (L2.start N vs) H s1 := inv_start S hr.hd e0 hl r x
  refine wpAny_mono (ht.run [] s1 (L2.start N vs) H _ I hq) (fun fl s' hs => ?_) fun e s' hs => hs
  have fin : ∀ {σ' : L2.St} {H' : Hp} {v : V} {u : Value}, Inv (cxOf (L2.CX P w) P w K mg base N qual (defScope st) f cdv A outer s H E) [] σ' H' s' → RelV v u → Q v H' → CE outer P w H s Q u s' :=
    fun {σ' H' v u} J rv q => ⟨v, H', J.os, J.bare, J.base, J.hok, rv, q⟩
  cases fl with
  | ret u =>
    obtain ⟨v, σ', H', J, rv, q⟩ := hs
    exact fin J rv q
  | next =>
    obtain ⟨σ', H', J, q⟩ := hs
    exact fin (v := V.non) (u := Value.none) J rfl q
  | brk =>
    obtain ⟨_, _, _, q⟩ := hs
    exact False.elim q
  | cont =>
    obtain ⟨_, _, _, q⟩ := hs
    exact False.elim q
theorem spF_len {g : Gx} {cf : CF} {k : Nat} {ws : List PV.W} {rw : PV.W} {vs : List V} {H : Hp} {Q : VK} {E : XK} (h : SpF g cf k ws rw vs H Q E) : vs.length = ws.length := by
  obtain ⟨args, P, ψ, hl, r, _⟩ := h
  have := r.len
  simp only [argEnv, List.length_map, List.length_zip] at this
  omega
theorem fn_code {P : Program} {w : World} {K : PySem.W.Frag} {mg : Str → Option Value} {base : Heap} {x qual : Str} {st : Stmt} {f : Addr} {fd : FuncData} {N ps : List Str} {n k : Nat} {g : Gx} {cf mk cf' : CF} {fc : FnC} (F : Fun K x qual st f fd) (S : FnScope N ps (defScope st)) (hl : ps.length = fc.ws.length) (hns : N.length = fc.ns)
    (hbody : ∀ (X : Cx) (W : WX), FnCx P w K mg base N (defScope st) n X W → PSs X (defBody st) (tS g W cf mk (ownIx 0 fc.ws) fc.body)) (hcf : ∀ args, cf' k args = runF cf mk fc args) : FnG P w K mg base (n + 1) f fd ps (SpF g cf' k fc.ws fc.rw) := by
  refine fnG_of F S (fun vs H Q E h => by rw [spF_len h, hl]) fun X H vs Q E fx hsp => ⟨_, hbody X _ fx, ?_⟩
  have lv := spF_len hsp
  obtain ⟨args, P0, ψ, ha, r, q⟩ := hsp
  rw [hcf] at q
  unfold runF at q
  rw [if_pos ha] at q
  have hst := start_rel N r ha (fc.ns - fc.ws.length) (by rw [hns, lv])
  refine ⟨_, P0, ψ, hst, ?_⟩
  have hst2 : L2.start N vs = vs.map some ++ List.replicate (fc.ns - fc.ws.length) none := by unfold L2.start; rw [hns, lv]
  cases eo : evS cf mk fc.body ((fc.ws.zip args).map some ++ List.replicate (fc.ns - fc.ws.length) none) with
  | nx e =>
    rw [eo] at q
    show PO g _ _ _ _ _ _ _ (evS cf mk fc.body _)
    rw [show argEnv fc.ws args = (fc.ws.zip args).map some from rfl, eo]
    intro σ' H' P' φ' r' s kp
    by_cases hr : fc.rw.isFrz = true
    · simp only [hr, if_true] at q
      cases ho : outsOf fc.ws args e with
      | none => simp only [ho, R.of_none, R.bind_stuck] at q
      | some o =>
        simp only [ho, R.of_some, R.bind_ok] at q
        rw [hst2] at kp
        obtain ⟨ψ', r2, s2⟩ := outs_rel r r' s kp ho
        have er : fc.rw = .frz := by cases h : fc.rw <;> first | rfl | (rw [h] at hr; cases hr)
        exact q.2 .non H' P' ψ' r2 s2 (ρW_of_dn .non er)
    · simp only [hr, if_false] at q
      exact q.elim
  | ret w1 d e =>
    rw [eo] at q
    show PO g _ _ _ _ _ _ _ (evS cf mk fc.body _)
    rw [show argEnv fc.ws args = (fc.ws.zip args).map some from rfl, eo]
    intro v σ' H' P' φ' r' s kp hv
    by_cases hr : (fc.rw.isFrz || W.same w1 fc.rw) = true
    · simp only [hr, if_true] at q
      cases ho : outsOf fc.ws args e with
      | none => simp only [ho, R.of_none, R.bind_stuck] at q
      | some o =>
        simp only [ho, R.of_some, R.bind_ok] at q
        rw [hst2] at kp
        by_cases hf : fc.rw.isFrz = true
        · have er : fc.rw = .frz := by cases h : fc.rw <;> first | rfl | (rw [h] at hf; cases hf)
          obtain ⟨P2, r3, s3, _, dn⟩ := ρW_cool r' hv s
          obtain ⟨ψ', r2, s2⟩ := outs_rel r r3 s3 kp ho
          exact q.2 v H' P2 ψ' r2 s2 (ρW_of_dn dn er)
        · have hs : w1 = fc.rw := by
            have hf' : fc.rw.isFrz = false := by simpa using hf
            rw [hf', Bool.false_or] at hr
            exact PV.W.same_eq _ _ hr
          obtain ⟨ψ', r2, s2, sub⟩ := outs_rel' r r' s kp ho
          obtain ⟨fp, on, nd, ap⟩ := hv
          exact q.2 v H' P' ψ' r2 s2 ⟨fp, by rw [← hs]; exact on, nd, fun a ha => ⟨(ap a ha).1, (ap a ha).2.1, fun i hi => let ⟨j, hj⟩ := sub i a hi; (ap a ha).2.2 j hj⟩⟩
    · simp only [hr, if_false] at q
      exact q.elim
  | exc x e =>
    rw [eo] at q
    show PO g _ _ _ _ _ _ _ (evS cf mk fc.body _)
    rw [show argEnv fc.ws args = (fc.ws.zip args).map some from rfl, eo]
    intro cls dx σ' H' P' φ' r' s kp xo
    cases ho : outsOf fc.ws args e with
    | none => simp only [ho, R.of_none, R.bind_stuck] at q
    | some o =>
      simp only [ho, R.of_some, R.bind_ok] at q
      rw [hst2] at kp
      obtain ⟨ψ', r2, s2⟩ := outs_rel r r' s kp ho
      exact q.2 cls dx H' P' ψ' r2 s2 xo
  | brk e => rw [eo] at q; exact q.elim
  | cont e => rw [eo] at q; exact q.elim
  | stuck => rw [eo] at q; exact q.elim
theorem runF_len {cf mk : CF} {fc : FnC} {args : List D} : (∀ p, runF cf mk fc args = .ok p → p.2.length = args.length) ∧ ∀ x outs, runF cf mk fc args = .exc x outs → outs.length = args.length := by
  have key : ∀ (e : Env) (d : D), (∀ p, ((R.of (outsOf fc.ws args e)).bind fun o => R.ok (d, o) : R (List D) (D × List D)) = .ok p → p.2.length = args.length) ∧ ∀ x outs, ((R.of (outsOf fc.ws args e)).bind fun o => R.ok (d, o) : R (List D) (D × List D)) = .exc x outs → outs.length = args.length := fun e d => by
    cases ho : outsOf fc.ws args e with
    | none => exact ⟨fun p h => by simp at h, fun x o h => by simp at h⟩
    | some o =>
      obtain ⟨l1, l2, _⟩ := outs_get ho
      exact ⟨fun p h => by simp at h; subst h; simp; omega, fun x o h => by simp at h⟩
  unfold runF
  by_cases ha : args.length = fc.ws.length
  · rw [if_pos ha]
    cases eo : evS cf mk fc.body ((fc.ws.zip args).map some ++ List.replicate (fc.ns - fc.ws.length) none) with
    | nx e =>
      by_cases hr : fc.rw.isFrz = true
      · simp only [hr, if_true]; exact key e .non
      · simp only [hr]; exact ⟨fun p h => (by cases h), fun x o h => (by cases h)⟩
    | ret w d e =>
      by_cases hr : (fc.rw.isFrz || W.same w fc.rw) = true
      · simp only [hr, if_true]; exact key e d
      · simp only [hr]; exact ⟨fun p h => (by cases h), fun x o h => (by cases h)⟩
    | exc x e =>
      cases ho : outsOf fc.ws args e with
      | none => exact ⟨fun p h => by simp [ho] at h, fun x o h => by simp [ho] at h⟩
      | some o =>
        obtain ⟨l1, l2, _⟩ := outs_get ho
        exact ⟨fun p h => by simp [ho] at h, fun x o h => by simp [ho] at h; obtain ⟨_, rfl⟩ := h; omega⟩
    | brk e => exact ⟨fun p h => (by cases h), fun x o h => (by cases h)⟩
    | cont e => exact ⟨fun p h => (by cases h), fun x o h => (by cases h)⟩
    | stuck => exact ⟨fun p h => (by cases h), fun x o h => (by cases h)⟩
  · rw [if_neg ha]
    exact ⟨fun p h => (by cases h), fun x o h => (by cases h)⟩
theorem cf_ok (tb : Tb) : ∀ n, CFok (cf tb n)
  | 0 => ⟨fun k args p h => (by cases h), fun k args x o h => (by cases h)⟩
  | 1 => by
    refine ⟨fun k args p h => ?_, fun k args x o h => ?_⟩
    · unfold cf at h
      split at h
      · exact runF_len.1 p h
      · cases h
    · unfold cf at h
      split at h
      · exact runF_len.2 x o h
      · cases h
  | n + 2 => by
    refine ⟨fun k args p h => ?_, fun k args x o h => ?_⟩
    · unfold cf at h
      split at h
      · exact runF_len.1 p h
      · cases h
    · unfold cf at h
      split at h
      · exact runF_len.2 x o h
      · cases h
end PV
end

section
set_option Elab.async false
set_option linter.all false
set_option maxRecDepth 100000
set_option maxHeartbeats 1000000
/-! PV18b: a call that is handed a new thing. -/
namespace PV
open PySem L2

def hide (fp : List Addr) (H : Hp) : Hp := fun a => if a ∈ fp then none else H a
theorem hide_in {fp : List Addr} {H : Hp} {a : Addr} (h : a ∈ fp) : hide fp H a = none := if_pos h
theorem hide_out {fp : List Addr} {H : Hp} {a : Addr} (h : a ∉ fp) : hide fp H a = H a := if_neg h
def psiM (fp : List Addr) (ψ : Nat → List Addr) : Nat → List Addr
  | 0 => fp
  | j + 1 => ψ j
section
variable {g : Gx} {W : WX} {cf mk : CF} {σ τ : L2.St} {H P : Hp} {φ ψ : Nat → List Addr} {env : Env} {fp : List Addr} {v : V} {w : PV.W} {d : D}
theorem Rel.hide (r : Rel g env σ H P φ) (ap : ∀ a ∈ fp, P a = none ∧ ∀ i, a ∉ φ i) : Rel g env σ (PV.hide fp H) P φ := by
  have out : ∀ i a, a ∈ φ i → a ∉ fp := fun i a ha hf => (ap a hf).2 i ha
  refine ⟨r.len, fun i w d h => ?_, r.nd, r.dj, r.ap, fun i a ha => ?_, fun a o h => ?_⟩
  · obtain ⟨v, e, o⟩ := r.on i w d h
    exact ⟨v, e, o.frame (Sub.refl _) fun a ha o ho => by rw [hide_out (out i a ha)]; exact ho⟩
  · rw [hide_out (out i a ha)]; exact r.tr i a ha
  · rw [hide_out (fun hf => by rw [(ap a hf).1] at h; cases h)]; exact r.sub a o h
theorem Cs.hide {as : C} {vs : List V} {ds : List D} (ap : ∀ a ∈ fp, ∀ i, a ∉ φ i) (h : Cs g P H φ σ env as vs ds) : Cs g P (PV.hide fp H) φ σ env as vs ds := by
  induction h with
  | nil => exact .nil
  | @io i w r v vs d ds e1 e2 o _ ih => exact .io e1 e2 (o.frame (Sub.refl _) fun a ha o ho => by rw [hide_out (fun hf => ap a hf i ha)]; exact ho) ih
  | val hn dn _ ih => exact .val hn dn ih
theorem Step.hide {H' P' : Hp} {φ' : Nat → List Addr} (s : Step H P φ H' P' φ') (n : ∀ a ∈ fp, H a = none) : Step H P φ (PV.hide fp H') P' φ' :=
  ⟨fun a o h k => by rw [hide_out (fun hf => by rw [n a hf] at h; cases h)]; exact s.keep a o h k, fun a h => by rw [hide_out (fun hf => h (n a hf))]; exact s.there a h, s.pm, s.fr, s.pn⟩
theorem Rel.cons (r : Rel g env τ H P ψ) (on : On g P H v w d fp) (nd : fp.Nodup) (ap : ∀ a ∈ fp, P a = none ∧ ∀ i, a ∉ ψ i) : Rel g (some (w, d) :: env) (some v :: τ) H P (psiM fp ψ) := by
  refine ⟨by simp [r.len], fun i w' d' h => ?_, fun i => ?_, fun i j a hi hj => ?_, fun i a hi => ?_, fun i a hi => ?_, r.sub⟩
  · cases i with
    | zero => simp at h; obtain ⟨rfl, rfl⟩ := h; exact ⟨v, by simp, on⟩
    | succ i => exact r.on i w' d' (by simpa using h)
  · cases i with
    | zero => exact nd
    | succ i => exact r.nd i
  · cases i with
    | zero => cases j with
      | zero => rfl
      | succ j => exact absurd hj ((ap a hi).2 j)
    | succ i => cases j with
      | zero => exact absurd hi ((ap a hj).2 i)
      | succ j => rw [r.dj i j a hi hj]
  · cases i with
    | zero => exact (ap a hi).1
    | succ i => exact r.ap i a hi
  · cases i with
    | zero => exact on.there a hi
    | succ i => exact r.tr i a hi
theorem Rel.tail {x : Option (PV.W × D)} {y : Option V} (r : Rel g (x :: env) (y :: τ) H P ψ) : Rel g env τ H P (fun j => ψ (j + 1)) :=
  ⟨by have := r.len; simpa using this, fun i w d h => by
    obtain ⟨v, e, o⟩ := r.on (i + 1) w d (by simpa using h)
    exact ⟨v, by simpa using e, o⟩, fun i => r.nd _, fun i j a hi hj => by have := r.dj _ _ a hi hj; omega, fun i a h => r.ap _ a h, fun i a h => r.tr _ a h, r.sub⟩
theorem callM_imp {ca a : C} {k : Nat} {rw : PV.W} {Q : VK} (hcf : CFok cf) (ho : ioOnce ca = true) (h : tE g W cf mk (.callM k rw w a ca) σ H Q) :
    tE g W cf mk a σ H fun v H1 => tCs g W cf mk ca σ H1 fun vs H2 => SpF g cf k (w :: wsOf ca) rw (v :: vs) H2 Q (WE W σ) := by
  obtain ⟨env, P, φ, rel, p⟩ := h
  simp only [evE] at p
  refine ⟨env, P, φ, rel, ?_⟩
  cases er : evE cf mk a env with
  | exc x e' => rw [er] at p; exact p
  | stuck => rw [er] at p; exact p
  | ok r0 =>
    rw [er] at p
    simp only [R.bind_ok] at p
    intro v H1 P1 φ1 rel1 st1 hv
    obtain ⟨fp, on, nd, ap⟩ := hv
    by_cases hs : PV.W.same (freshW a r0.1) w = true
    · rw [if_pos hs] at p
      have ew := PV.W.same_eq _ _ hs
      rw [ew] at on
      refine tCs_of ca ⟨r0.2, P1, φ1, rel1, ?_⟩
      cases er2 : evC cf mk ca r0.2 with
      | exc x e' => rw [er2] at p; exact fun cls dx H2 P2 φ2 rel2 st2 xo => p cls dx H2 P2 φ2 rel2 (st1.trans st2) xo
      | stuck => rw [er2] at p; exact p
      | ok r =>
        rw [er2] at p
        simp only [R.bind_ok] at p
        intro vs H2 P2 φ2 rel2 st2 hcs
        obtain ⟨on2, ap2⟩ := apart_keep on (fun a ha => (ap a ha).2) st2
        have relA := hcs.rel ho rel2
        have apA : ∀ a ∈ fp, P2 a = none ∧ ∀ i, a ∉ psi ca φ2 i := fun a ha => ⟨(ap2 a ha).1, fun i hi => by
          unfold psi at hi
          split at hi
          · exact (ap2 a ha).2 _ hi
          · simp at hi⟩
        have relM := relA.cons on2 nd apA
        refine ⟨r0.1 :: r.1, P2, psiM fp (psi ca φ2), by simp [hcs.lens.2], relM, ?_⟩
        have stB : Step H P φ (PV.hide fp H2) P2 φ2 := (st1.trans st2).hide fun a ha => (ap a ha).1
        have core : ∀ {outs : List D} {H' P' : Hp} {ψ' : Nat → List Addr}, outs.length = (w :: wsOf ca).length → Rel g (argEnv (w :: wsOf ca) outs) ((v :: vs).map some) H' P' ψ' → Step H2 P2 (psiM fp (psi ca φ2)) H' P' ψ' →
            Rel g (ioSet ca outs.tail r.2) σ H' P' (phi ca φ2 fun j => ψ' (j + 1)) ∧ Step H P φ H' P' (phi ca φ2 fun j => ψ' (j + 1)) := by
          intro outs H' P' ψ' hl r' st'
          cases outs with
          | nil => simp at hl
          | cons o outs =>
            have rt : Rel g (argEnv (wsOf ca) outs) (vs.map some) H' P' (fun j => ψ' (j + 1)) := by
              have r2 : Rel g (some (w, o) :: argEnv (wsOf ca) outs) (some v :: vs.map some) H' P' ψ' := r'
              exact r2.tail
            have stt : Step (PV.hide fp H2) P2 (psi ca φ2) H' P' (fun j => ψ' (j + 1)) := by
              refine ⟨fun a o h n => ?_, fun a h => ?_, st'.pm, fun i a h => ?_, fun a h => ?_⟩
              · have hf : a ∉ fp := fun hf => by rw [hide_in hf] at h; cases h
                rw [hide_out hf] at h
                refine st'.keep a o h fun i hi => ?_
                cases i with
                | zero => exact hf hi
                | succ i => exact n i hi
              · have hf : a ∉ fp := fun hf => h (hide_in hf)
                rw [hide_out hf] at h
                exact st'.there a h
              · rcases st'.fr (i + 1) a h with ⟨j, hj⟩ | z
                · cases j with
                  | zero => exact .inr (hide_in hj)
                  | succ j => exact .inl ⟨j, hj⟩
                · by_cases hf : a ∈ fp
                  · exact .inr (hide_in hf)
                  · exact .inr (by rw [hide_out hf]; exact z)
              · rcases st'.pn a h with z | ⟨j, hj⟩ | z
                · exact .inl z
                · cases j with
                  | zero => exact .inr (.inr (hide_in hj))
                  | succ j => exact .inr (.inl ⟨j, hj⟩)
                · by_cases hf : a ∈ fp
                  · exact .inr (.inr (hide_in hf))
                  · exact .inr (.inr (by rw [hide_out hf]; exact z))
            obtain ⟨rel3, st3⟩ := (hcs.hide (fun a ha => (ap2 a ha).2)).after ho (rel2.hide ap2) (by simpa using hl) rt stt
            exact ⟨rel3, stB.trans st3⟩
        cases ec : cf k (r0.1 :: r.1) with
        | ok q =>
          rw [ec] at p
          simp only at p ⊢
          have hl : q.2.length = (w :: wsOf ca).length := by rw [hcf.ok _ _ _ ec]; simp [hcs.lens.2]
          refine ⟨hl, fun v' H' P' ψ' r' st' ⟨fp2, on3, nd3, ap3⟩ => ?_⟩
          obtain ⟨rel3, st3⟩ := core hl r' st'
          refine p v' H' P' _ rel3 st3 ⟨fp2, on3, nd3, fun a ha => ⟨(st1.trans st2).back (ap3 a ha).1, (ap3 a ha).2.1, fun i hi => ?_⟩⟩
          unfold phi at hi
          split at hi
          · exact (ap3 a ha).2.2 _ hi
          · exact rel2.tr i a hi (ap3 a ha).1
        | exc x outs =>
          rw [ec] at p
          simp only at p ⊢
          have hl : outs.length = (w :: wsOf ca).length := by rw [hcf.ex _ _ _ _ ec]; simp [hcs.lens.2]
          refine ⟨hl, fun cls dx H' P' ψ' r' st' xo => ?_⟩
          obtain ⟨rel3, st3⟩ := core hl r' st'
          exact p cls dx H' P' _ rel3 st3 xo
        | stuck => rw [ec] at p; exact p
    · rw [if_neg hs] at p
      exact p.elim
end
section
variable {X : Cx} {g : Gx} {W : WX} {cf mk : CF} {e : Expr} {es : List Expr} {ca cb : C} {pos : Pos}
theorem e_callM {x : Str} {n k : Nat} {rw w : PV.W} {fa : Addr} {fd : FuncData} {ps : List Str} {p : Pos} (hcf : CFok cf) (F : FnG X.prog X.w X.K X.mg X.base n fa fd ps (SpF g cf k (w :: wsOf ca) rw)) (hgu : X.A.guards = some []) (hr : Room n X.A) (hg : Gl X x) (hm : X.mg x = some (.ref fa)) (hk : PySem.W.keepIn X.K (.ref fa) = true) (hb : Binds X.K fd ps [])
    (tk : Takes X W) (hd : (x == ("__debug__" : Str)) = false) (h1 : PE X e (tE g W cf mk cb)) (hs1 : isStar e = false) (ha : PA X es (tCs g W cf mk ca)) (ho : ioOnce ca = true) (hs : noStars es = true) : PE X (.Call (.Name x p) (e :: es) [] pos) (tE g W cf mk (.callM k rw w cb ca)) := by
  refine ⟨fun pins s σ H Q I h => ?_⟩
  have h2 : tCons (tE g W cf mk cb) (tCs g W cf mk ca) σ H fun vs H2 => SpF g cf k (w :: wsOf ca) rw vs H2 Q (WE W σ) := callM_imp hcf ho h
  refine wpAny_Call_Name_kw (ld_glob I hg hm ?_ hd)
  refine PySem.W.callWith_K (h₀ := X.base) I.ok.mod.kin hk (thn ((pa_cons h1 ha (star_of _ hs1)).run pos pins s σ H _ I h2) fun us s1 ⟨vs, H1, I1, r, q⟩ => ⟨I1.kIn, ?_⟩) (star_of _ hs1) (any_stars _ es hs)
  exact run_fnG F hgu hr (fun hl => by have b := hb s1 us I1.kIn (by rw [List.append_nil]; exact hl); rw [List.append_nil] at b; exact b) tk I1 r q
end
end PV
end

section
set_option Elab.async false
set_option linter.all false
set_option maxRecDepth 100000
set_option maxHeartbeats 1000000
/-! PV18c: dict(enumerate(xs)). -/
namespace PV
open PySem L2 PySem.Spec PyProof.Rows

def enumK : Nat → List V → List (Key × V)
  | _, [] => []
  | i, x :: r => (.inl (i : Int), x) :: enumK (i + 1) r
theorem enumK_keys : ∀ (xs : List V) (i : Nat), (enumK i xs).map (fun p => kD p.1) = rangeD (i : Int) xs.length
  | [], _ => rfl
  | x :: r, i => by
    simp only [enumK, List.map_cons, List.length_cons, rangeD, enumK_keys r (i + 1)]
    rfl
theorem enumK_vals : ∀ (xs : List V) (i : Nat), (enumK i xs).map (·.2) = xs
  | [], _ => rfl
  | x :: r, i => by simp only [enumK, List.map_cons, enumK_vals r (i + 1)]
theorem enumK_kv : ∀ {xs : List V} {its : List Value} (i : Nat), Vals xs its → ∃ prs : List (Key × Value), KV (enumK i xs) prs ∧ prs.length = its.length ∧ ∀ (j : Nat) (v : Value), its[j]? = some v → prs[j]? = some (.inl ((i + j : Nat) : Int), v)
  | [], _, i, .nil => ⟨[], .nil, rfl, fun j v h => by simp at h⟩
  | x :: xs, u :: us, i, .cons r t => by
    obtain ⟨prs, h1, h2, h3⟩ := enumK_kv (i + 1) t
    refine ⟨(.inl (i : Int), u) :: prs, .cons ⟨rfl, r⟩ h1, by simp [h2], fun j v h => ?_⟩
    cases j with
    | zero => simp at h; subst h; simp
    | succ j =>
      have := h3 j v (by simpa using h)
      have e : i + 1 + j = i + (j + 1) := by omega
      rw [e] at this
      simpa using this
section
variable {X : Cx} {g : Gx} {W : WX} {cf mk : CF} {a : Expr} {ca : C} {pos p pe p2 : Pos}
theorem e_dictE (hK : X.K = g.K) (hc : X.calm = true) (hg : Gl X "dict") (hm : X.mg "dict" = none) (hg2 : Gl X "enumerate") (hm2 : X.mg "enumerate" = none) (ha : PE X a (tArg g W cf mk ca)) (hs : isStar a = false) :
    PE X (.Call (.Name "dict" p) [.Call (.Name "enumerate" pe) [a] [] p2] [] pos) (tE g W cf mk (.prim .dictE (.cons ca .nil))) := by
  refine ⟨fun pins s σ H Q I h => ?_⟩
  have q0 : tArg g W cf mk ca σ H fun x H' => rPL g .dictE [x] H' Q := tArgs_prim h
  have hA : PA X [a] (tCons (tArg g W cf mk ca) tNil) := pa_cons ha pa_nil (star_of _ hs)
  refine Call_ (ld_blt I hg hm PyProof.Rows.boot_dict (PyProof.Rows.callWith_type1 ?_ rfl rfl) (by decide) (by decide))
  show wpAny _ _ (spliced [(false, eval (.Call (.Name "enumerate" pe) [a] [] p2) X.env)]) _ _ s
  refine Calls.spliced_cons ?_
  refine Call_ (ld_blt I hg2 hm2 boot_enumerate (PyProof.Rows.callWith_type1 (thn (hA.run p2 pins s σ H (fun vs H1 => ∃ x, vs = [x] ∧ rPL g .dictE [x] H1 Q) I (tArg_mono q0 fun v H' z => ⟨v, rfl, z⟩)) fun us s1 ⟨vs, H1, I1, r1, x, ex, z⟩ => ?_) (stars1 hs) rfl))
  subst ex
  obtain ⟨P, x', d, dd, e, sub, h1, hf, k⟩ := rPL1_inv rfl z
  cases e
  unfold dictED at hf
  split at hf
  · rename_i ds
    cases hf
    obtain ⟨t, ys, rfl, hx, n⟩ := h1.sub_l sub
    obtain ⟨its, rv, p', hz⟩ := I1.list (show SqL X.K H1 t ys by rw [hK]; exact hx)
    cases r1 with
    | cons r rr =>
      cases rr
      cases r
      have hlt : t < s1.heap.objs.size := p'.lt
      refine call_enumerate_list p'.isList fun h' he hit hsz hk => Calls.spliced_nil ?_
      obtain ⟨prs, kv, kl, kp⟩ := enumK_kv 0 rv
      have hl' : h'.IsList t its.toArray := by
        obtain ⟨o, n', ho, hcl, _, hd⟩ := p'
        exact ⟨o, hk _ _ ho, hcl, n', hd⟩
      have big : sysModules < s1.heap.objs.size := I1.big
      refine call_dict_pairs (knd := mixKind X.prog X.w) (kvs := prs) (PairArg.enumerate (prog := X.prog) (w := X.w) (s1.heap.objs.size + 1) s1.heap.objs.size t (Nat.succ_ne_self _) (Nat.ne_of_lt (Nat.lt_succ_of_lt hlt)) (Nat.ne_of_lt hlt) its.toArray) (I1.ok.hd hc) ⟨⟨_, he⟩, hit, hl'⟩ ⟨by rw [kl, List.size_toArray], fun j key v ⟨⟨tk, e1⟩, e2⟩ => ?_⟩ (by rw [List.size_toArray, ← rv.length]; exact hz) fun h2 tk hd k2 => ?_
      · refine ⟨.inl (j : Int), ?_, ?_⟩
        · have := kp j v (by simpa using e2)
          rw [Nat.zero_add] at this
          exact this
        · subst e1
          exact kV_is (P := X.prog) (w := X.w) (k := .inl (j : Int)) ⟨tk, rfl⟩
      · have hle : s1.heap.objs.size ≤ h'.objs.size := by rw [hsz]; exact Nat.le_add_right _ _
        have dn : Dns g P ((enumK 0 ys).map (·.2)) ds := by rw [enumK_vals]; exact n
        obtain ⟨y1, y2, y3⟩ := putAll_merge (enumK 0 ys) ds dn [] [] .nil List.nodup_nil
        have ek : (enumK 0 ys).map (fun p => kD p.1) = rangeD 0 ds.length := by rw [enumK_keys, n.length]; rfl
        rw [ek] at y1 y2
        have hm : (h'.objs.size == sysModules) = false := beq_eq_false_iff_ne.mpr (Nat.ne_of_gt (Nat.lt_of_lt_of_le big hle))
        have hlen : (mergeK [] (enumK 0 ys)).length ≤ sizeLine := by
          refine Nat.le_trans (length_mergeK _ []) ?_
          have := congrArg List.length (enumK_vals ys 0)
          rw [List.length_map] at this
          rw [List.length_nil, Nat.zero_add, this]
          exact hz
        refine ⟨.ref h'.objs.size, upd H1 h'.objs.size (.dK (mergeK [] (enumK 0 ys))), I1.laid (t' := tk) (fun b o e => k2 b o (fun hb => ?_) (hk b o e)) hle (show ObjOk X.prog X.w _ _ _ (.dK (mergeK [] (enumK 0 ys))) from ⟨hlen, hm, merged [] prs, KV.merge kv .nil, hd⟩), rfl, giveK sub k rfl y1 y3 y2 _ (I1.hok.fresh hle)⟩
        have lt := Heap.lt_size e
        simp only [List.mem_cons, List.not_mem_nil, or_false] at hb
        rcases hb with rfl | rfl
        · exact absurd lt (Nat.not_lt.mpr (Nat.le_add_right _ _))
        · exact absurd lt (Nat.lt_irrefl _)
  · cases hf
end
end PV
end

section
set_option Elab.async false
set_option linter.all false
set_option maxRecDepth 100000
set_option maxHeartbeats 1000000
/-! PV19: from the text to its code: names, operators, calls. -/
namespace PV
open PySem L2

/-- a def that may be called: its name, its number, its parameters -/
structure GF where
  nm : Str
  k : Nat
  ws : List PV.W
  rw : PV.W
  ps : List Str
/-- what is known where code is read: the slots' names, the block's names, the defs, the constants, the built-in names -/
structure KC where
  N : List Str
  sc : Scope
  fs : List GF
  cs : List (Str × D)
  bs : List Str
  /-- the names that may be stored to, where not all may -/
  st : Option (List Str) := none
def KC.may (kc : KC) (x : Str) : Bool := match kc.st with
  | none => true
  | some l => decide (x ∈ l)
def visK : Option NameKind → Bool
  | some .local => true
  | some .cell => true
  | some .free => true
  | _ => false
def locK : Option NameKind → Bool
  | some .local => true
  | some .cell => true
  | _ => false
def isLocal : Option NameKind → Bool
  | some .local => true
  | _ => false
def isGl : Option NameKind → Bool
  | some .globalImplicit => true
  | _ => false
def idx : List Str → Str → Option Nat
  | [], _ => none
  | y :: r, x => if y = x then some 0 else (idx r x).map (· + 1)
theorem idx_ok : ∀ {N : List Str} {x : Str} {i : Nat}, idx N x = some i → N[i]? = some x
  | [], _, _, h => by cases h
  | y :: r, x, i, h => by
    unfold idx at h
    split at h
    · rename_i e
      cases h
      simp [e]
    · obtain ⟨j, hj, rfl⟩ := Option.map_eq_some_iff.mp h
      simpa using idx_ok hj
def okName (x : Str) : Bool := !(x == ("__debug__" : Str)) && !(x == ("__classdict__" : Str))
def KC.slot (kc : KC) (x : Str) : Option Nat := if visK (kc.sc.names.lookup x) && okName x then idx kc.N x else none
def KC.slotL (kc : KC) (x : Str) : Option Nat := if locK (kc.sc.names.lookup x) && kc.may x then idx kc.N x else none
def findF : List GF → Str → Option GF
  | [], _ => none
  | f :: r, x => if f.nm = x then some f else findF r x
def findC : List (Str × D) → Str → Option D
  | [], _ => none
  | p :: r, x => if p.1 = x then some p.2 else findC r x
theorem findF_ok : ∀ {fs : List GF} {x : Str} {f : GF}, findF fs x = some f → f ∈ fs ∧ f.nm = x
  | [], _, _, h => by cases h
  | f :: r, x, f', h => by
    unfold findF at h
    split at h
    · rename_i e
      cases h
      exact ⟨List.mem_cons_self, e⟩
    · obtain ⟨h1, h2⟩ := findF_ok h
      exact ⟨List.mem_cons_of_mem _ h1, h2⟩
theorem findC_ok : ∀ {cs : List (Str × D)} {x : Str} {d : D}, findC cs x = some d → (x, d) ∈ cs
  | [], _, _, h => by cases h
  | p :: r, x, d, h => by
    unfold findC at h
    split at h
    · rename_i e
      cases h
      subst e
      exact List.mem_cons_self
    · exact List.mem_cons_of_mem _ (findC_ok h)

/-- the context is as the code's reader thinks -/
structure Good (g : Gx) (cf : CF) (n : Nat) (kc : KC) (X : Cx) (W : WX) : Prop where
  nm : X.N = kc.N
  nd : X.N.Nodup
  sc : X.env.scope = kc.sc
  calm : X.calm = true
  fn : ∀ x, kc.may x = true → L2.Loc X.env.scope x → X.fn x = true ∨ X.env.scope.names.lookup x = some .local
  K : X.K = g.K
  room : Room n X.A
  gu : X.A.guards = some []
  tk : Takes X W
  cfok : CFok cf
  fs : ∀ f ∈ kc.fs, ∃ fd, X.mg f.nm = some (.ref (g.fa f.k)) ∧ PySem.W.keepIn X.K (.ref (g.fa f.k)) = true ∧ FnG X.prog X.w X.K X.mg X.base n (g.fa f.k) fd f.ps (SpF g cf f.k f.ws f.rw) ∧ Binds X.K fd f.ps [] ∧
    ∀ (names : List Str) (s : Shared) (us ws args : List Value), ∀ p : List Nat, (f.ps.take us.length ++ names).Nodup → (∀ k ∈ names, k ∈ f.ps) → permL (f.ps.take us.length ++ names) p = some f.ps → us.length + names.length = f.ps.length → us.length + ws.length = f.ps.length → permL (us ++ ws) p = some args → BindsTo s fd ⟨us, names.zip ws⟩ (f.ps.zip args)
  cs : ∀ p ∈ kc.cs, ∃ u v, X.mg p.1 = some u ∧ RelV v u ∧ ∀ P, Dn g P v p.2
  bs : ∀ x ∈ kc.bs, X.mg x = none
section
variable {X : Cx} {g : Gx} {W : WX} {cf mk : CF} {n : Nat} {kc : KC} {a b c e f o : Expr} {es : List Expr} {ca cb cc : C} {pos p2 pp : Pos} {x : Str} {i : Nat}
theorem Good.vis (G : Good g cf n kc X W) (h : visK (kc.sc.names.lookup x) = true) : Vis X.env.scope x := by
  rw [← G.sc] at h
  unfold Vis
  cases e : X.env.scope.names.lookup x with
  | none => rw [e] at h; cases h
  | some k =>
    rw [e] at h
    cases k <;> first | exact .inl rfl | exact .inr (.inl rfl) | exact .inr (.inr rfl) | cases h
theorem Good.loc (G : Good g cf n kc X W) (h : locK (kc.sc.names.lookup x) = true) : L2.Loc X.env.scope x := by
  rw [← G.sc] at h
  unfold L2.Loc
  cases e : X.env.scope.names.lookup x with
  | none => rw [e] at h; cases h
  | some k =>
    rw [e] at h
    cases k <;> first | exact .inl rfl | exact .inr rfl | cases h
theorem Good.lcl (G : Good g cf n kc X W) (h : isLocal (kc.sc.names.lookup x) = true) : X.env.scope.names.lookup x = some .local := by
  rw [← G.sc] at h
  cases e : X.env.scope.names.lookup x with
  | none => rw [e] at h; cases h
  | some k =>
    rw [e] at h
    cases k <;> first | rfl | cases h
theorem Good.gl (G : Good g cf n kc X W) (h : isGl (kc.sc.names.lookup x) = true) : Gl X x := by
  rw [← G.sc] at h
  show X.env.scope.names.lookup x = _
  cases e : X.env.scope.names.lookup x with
  | none => rw [e] at h; cases h
  | some k =>
    rw [e] at h
    cases k <;> first | rfl | cases h
theorem Good.slot (G : Good g cf n kc X W) (h : kc.slot x = some i) : PE X (.Name x pos) (tVar i) := by
  unfold KC.slot at h
  split at h
  · rename_i hv
    simp only [Bool.and_eq_true, okName, Bool.not_eq_true'] at hv
    exact pe_var (by rw [G.nm]; exact idx_ok h) (G.vis hv.1) hv.2.1 hv.2.2
  · cases h
theorem Good.slotL (G : Good g cf n kc X W) (h : kc.slotL x = some i) : X.N[i]? = some x ∧ L2.Loc X.env.scope x ∧ (X.fn x = true ∨ X.env.scope.names.lookup x = some .local) := by
  unfold KC.slotL at h
  split at h
  · rename_i hv
    simp only [Bool.and_eq_true] at hv
    exact ⟨by rw [G.nm]; exact idx_ok h, G.loc hv.1, G.fn _ hv.2 (G.loc hv.1)⟩
  · cases h
theorem Good.hu (G : Good g cf n kc X W) : X.A.units + 1 < cLine := Nat.lt_of_le_of_lt (Nat.add_le_add_left (by decide : 1 ≤ 64) _) G.room.units
theorem Good.hu64 (G : Good g cf n kc X W) : X.A.units + 64 < cLine := G.room.units
/-! ### constants, names -/
def cConst : Const → Option C
  | .none => some (.lit .non)
  | .bool b => some (.lit (.bl b))
  | .int i => some (.lit (.int i))
  | .str s => some (.lit (.str s))
  | _ => none
theorem cConst_ok {k : Const} {j : Nat} {c : C} (h : cConst k = some c) : PE X (.Constant k j pos) (tE g W cf mk c) := by
  cases k <;> simp only [cConst, Option.some.injEq, reduceCtorEq] at h <;> subst h
  · exact e_lit pe_non fun P => .non
  · exact e_lit pe_bl fun P => .bl _
  · exact e_lit pe_int fun P => .int _
  · exact e_lit pe_str fun P => .str _
def cName (kc : KC) (x : Str) : Option C := match kc.slot x with
  | some i => some (.var i)
  | none => if isGl (kc.sc.names.lookup x) && okName x then (findC kc.cs x).map .lit else none
theorem cName_ok (G : Good g cf n kc X W) {c : C} (h : cName kc x = some c) : PE X (.Name x pos) (tE g W cf mk c) := by
  unfold cName at h
  split at h
  · rename_i i hs
    cases h
    exact e_var (G.slot hs)
  · split at h
    · rename_i hg
      simp only [Bool.and_eq_true, okName, Bool.not_eq_true'] at hg
      obtain ⟨d, hd, rfl⟩ := Option.map_eq_some_iff.mp h
      obtain ⟨u, v, h1, h2, h3⟩ := G.cs _ (findC_ok hd)
      exact e_lit (pe_glob (G.gl hg.1) h1 h2 hg.2.1) h3
    · cases h
/-! ### arguments -/
variable {rec : Expr → Option C}
/-- an operation's argument -/
def cArg (kc : KC) (rec : Expr → Option C) (e : Expr) : Option C := match e with
  | .Name x _ => match kc.slot x with
    | some i => some (.brw i [])
    | none => (rec e).bind fun c => if c.isBrw then none else some c
  | _ => (rec e).bind fun c => if c.isBrw then none else some c
theorem cArg_ok (G : Good g cf n kc X W) (R : ∀ e c, rec e = some c → PE X e (tE g W cf mk c)) {c : C} (h : cArg kc rec e = some c) : PE X e (tArg g W cf mk c) := by
  have low : ∀ e, ((rec e).bind fun c => if c.isBrw then none else some c) = some c → PE X e (tArg g W cf mk c) := fun e h => by
    obtain ⟨c', h1, h2⟩ := Option.bind_eq_some_iff.mp h
    split at h2
    · cases h2
    · rename_i hb
      cases h2
      exact a_of (R e _ h1) (by simpa using hb)
  unfold cArg at h
  split at h
  · split at h
    · rename_i i hs
      cases h
      exact a_brw (G.slot hs)
    · exact low _ h
  · exact low _ h
def cArgs (kc : KC) (rec : Expr → Option C) : List Expr → Option C
  | [] => some .nil
  | e :: r => if isStar e then none else (cArg kc rec e).bind fun c => (cArgs kc rec r).map (.cons c ·)
theorem cArgs_ok (G : Good g cf n kc X W) (R : ∀ e c, rec e = some c → PE X e (tE g W cf mk c)) : ∀ {es : List Expr} {c : C}, cArgs kc rec es = some c → PA X es (tArgs g W cf mk c) ∧ noStars es = true
  | [], c, h => by cases h; exact ⟨pa_args_nil, rfl⟩
  | e :: r, c, h => by
    unfold cArgs at h
    split at h
    · cases h
    · rename_i hs
      have hs : isStar e = false := by simpa using hs
      obtain ⟨c1, h1, h2⟩ := Option.bind_eq_some_iff.mp h
      obtain ⟨c2, h3, rfl⟩ := Option.map_eq_some_iff.mp h2
      obtain ⟨q1, q2⟩ := cArgs_ok G R h3
      exact ⟨pa_args_cons (cArg_ok G R h1) q1 hs, by simp [noStars, hs, q2]⟩
def cVs (rec : Expr → Option C) : List Expr → Option C
  | [] => some .nil
  | e :: r => if isStar e then none else (rec e).bind fun c => (cVs rec r).map (.cons c ·)
theorem cVs_ok (R : ∀ e c, rec e = some c → PE X e (tE g W cf mk c)) : ∀ {es : List Expr} {c : C}, cVs rec es = some c → PA X es (tVs g W cf mk c) ∧ noStars es = true
  | [], c, h => by cases h; exact ⟨pa_vs_nil, rfl⟩
  | e :: r, c, h => by
    unfold cVs at h
    split at h
    · cases h
    · rename_i hs
      have hs : isStar e = false := by simpa using hs
      obtain ⟨c1, h1, h2⟩ := Option.bind_eq_some_iff.mp h
      obtain ⟨c2, h3, rfl⟩ := Option.map_eq_some_iff.mp h2
      obtain ⟨q1, q2⟩ := cVs_ok R h3
      exact ⟨pa_vs_cons (R _ _ h1) q1 hs, by simp [noStars, hs, q2]⟩
def cCs (kc : KC) (rec : Expr → Option C) : List Expr → List PV.W → Option C
  | [], [] => some .nil
  | e :: r, w :: ws => if isStar e then none else if w.isFrz then (rec e).bind fun c => if c.isIo then none else (cCs kc rec r ws).map (.cons c ·) else match e with
    | .Name x _ => (kc.slot x).bind fun i => (cCs kc rec r ws).map (.cons (.io i w) ·)
    | _ => none
  | _, _ => none
theorem cCs_ok (G : Good g cf n kc X W) (R : ∀ e c, rec e = some c → PE X e (tE g W cf mk c)) : ∀ {es : List Expr} {ws : List PV.W} {c : C}, cCs kc rec es ws = some c → PA X es (tCs g W cf mk c) ∧ noStars es = true ∧ wsOf c = ws
  | [], [], c, h => by cases h; exact ⟨pa_cs_nil, rfl, rfl⟩
  | [], _ :: _, c, h => by cases h
  | _ :: _, [], c, h => by cases h
  | e :: r, w :: ws, c, h => by
    unfold cCs at h
    split at h
    · cases h
    · rename_i hs
      have hs : isStar e = false := by simpa using hs
      split at h
      · rename_i hw
        have ew : w = .frz := by cases w <;> first | rfl | cases hw
        subst ew
        obtain ⟨c1, h1, h2⟩ := Option.bind_eq_some_iff.mp h
        split at h2
        · cases h2
        · rename_i hio
          have hio : c1.isIo = false := by simpa using hio
          obtain ⟨c2, h3, rfl⟩ := Option.map_eq_some_iff.mp h2
          obtain ⟨q1, q2, q3⟩ := cCs_ok G R h3
          exact ⟨pa_cs_val (R _ _ h1) hio q1 hs, by simp [noStars, hs, q2], by rw [wsOf_val hio, q3]⟩
      · split at h
        · rename_i y py
          obtain ⟨i, h1, h2⟩ := Option.bind_eq_some_iff.mp h
          obtain ⟨c2, h3, rfl⟩ := Option.map_eq_some_iff.mp h2
          obtain ⟨q1, q2, q3⟩ := cCs_ok G R h3
          exact ⟨pa_cs_io (G.slot h1) q1 hs, by simp [noStars, hs, q2], by simp [wsOf, q3]⟩
        · cases h
end
end PV
end

section
set_option Elab.async false
set_option linter.all false
set_option maxRecDepth 100000
set_option maxHeartbeats 1000000
/-! PV20: from the text to its code: expressions. -/
namespace PV
open PySem L2

section
variable {X : Cx} {g : Gx} {W : WX} {cf mk : CF} {n : Nat} {kc : KC} {a b c e f o t : Expr} {es : List Expr} {ca cb cc : C} {pos p2 pp apos cpos : Pos} {x : Str} {i : Nat} {rec : Expr → Option C} {recT : Expr → Option C}
/-! ### operators -/
def opP : Operator → Option PV.P
  | .Add => some .add
  | .Sub => some .sub
  | .Mult => some .mul
  | .FloorDiv => some .fdiv
  | .Mod => some .mod
  | .Pow => some .pow
  | _ => none
theorem opP_ok (G : Good g cf n kc X W) {op : Operator} {p : PV.P} (h : opP op = some p) : OpR X (binaryOp op) (rP2 g p) := by
  cases op <;> simp only [opP, Option.some.injEq, reduceCtorEq] at h <;> subst h
  · exact r_add G.K
  · exact r_sub
  · exact r_mul
  · exact r_mod
  · exact r_pow
  · exact r_fdiv
def cmpP : CmpOp → Option PV.P
  | .Eq => some .eq
  | .NotEq => some .ne
  | .Lt => some .lt
  | .LtE => some .le
  | .Gt => some .gt
  | .GtE => some .ge
  | .In => some .isin
  | .NotIn => some .notin
  | _ => none
theorem cmpP_ok (G : Good g cf n kc X W) {op : CmpOp} {p : PV.P} (h : cmpP op = some p) : OpR X (compareOp op) (rP2 g p) ∧ ∀ k, freshP p (.bl k) = .frz := by
  cases op <;> simp only [cmpP, Option.some.injEq, reduceCtorEq] at h <;> subst h
  · exact ⟨r_eq G.K G.hu64, fun _ => rfl⟩
  · exact ⟨r_ne G.K G.hu64, fun _ => rfl⟩
  · exact ⟨r_lt, fun _ => rfl⟩
  · exact ⟨r_le, fun _ => rfl⟩
  · exact ⟨r_gt, fun _ => rfl⟩
  · exact ⟨r_ge, fun _ => rfl⟩
  · exact ⟨r_in G.K G.hu, fun _ => rfl⟩
  · exact ⟨r_notin G.K G.hu, fun _ => rfl⟩
def noSet : Expr → Bool
  | .Set _ _ _ => false
  | _ => true
theorem noSet_b {op : CmpOp} (h : noSet b = true) : behindInMarks op b = false := by cases b <;> first | rfl | cases h
theorem noSet_l {o1 o2 : CmpOp} (h : noSet c = true) : lastMarks [o1, o2] [b, c] = false := by
  show lastMarks [o2] [c] = false
  exact noSet_b h
theorem noSet_f (h : noSet e = true) (v : Value) : foldedSetIterable e X.env v = pure v := by cases e <;> first | rfl | cases h
def isNoneC : Expr → Bool
  | .Constant .none _ _ => true
  | _ => false
theorem isNone_ok (h : isNoneC b = true) : PE X b (L2.tC .non) := by
  cases b with
  | Constant k j p => cases k <;> first | exact pe_non | cases h
  | _ => cases h
def cCmp (kc : KC) (rec : Expr → Option C) (a : Expr) : List CmpOp → List Expr → Option C
  | [op], [b] => if noSet b then (match op with
      | .Is => if isNoneC b then (cArg kc rec a).map fun ca => .prim .isN (.cons ca .nil) else none
      | .IsNot => if isNoneC b then (cArg kc rec a).map fun ca => .prim .notN (.cons ca .nil) else none
      | op => (cmpP op).bind fun p => (cArg kc rec a).bind fun ca => (cArg kc rec b).map fun cb => .prim p (.cons ca (.cons cb .nil))) else none
  | [op, op'], [b, c] => if noSet c then (cmpP op).bind fun p => (cmpP op').bind fun q => (rec a).bind fun ca => (rec b).bind fun cb => (rec c).map fun cc => .chain p q ca cb cc else none
  | _, _ => none
/-- tests, likewise -/
theorem t_prim2 {op : CmpOp} {p : PV.P} (ho : OpR X (compareOp op) (rP2 g p)) (ha : PE X a (tArg g W cf mk ca)) (hb : PE X b (tArg g W cf mk cb)) (hm : behindInMarks op b = false) : PT X (.Compare a [op] [b] pos) (tT g W cf mk (.prim p (.cons ca (.cons cb .nil)))) :=
  (pt_cmpR ho ha hb hm).imp fun _ _ _ h => tArgs_prim h
theorem t_isN (ha : PE X a (tArg g W cf mk ca)) (hb : PE X b (L2.tC .non)) (hm : behindInMarks .Is b = false) : PT X (.Compare a [.Is] [b] pos) (tT g W cf mk (.prim .isN (.cons ca .nil))) :=
  (pt_cmpR r_isN ha hb hm).imp fun _ _ _ h => tArgs_prim h
theorem t_notN (ha : PE X a (tArg g W cf mk ca)) (hb : PE X b (L2.tC .non)) (hm : behindInMarks .IsNot b = false) : PT X (.Compare a [.IsNot] [b] pos) (tT g W cf mk (.prim .notN (.cons ca .nil))) :=
  (pt_cmpR r_notN ha hb hm).imp fun _ _ _ h => tArgs_prim h
theorem chain_imp {σ : L2.St} {H : Hp} {Q : VK} {p q : PV.P} (hp : ∀ k, freshP p (.bl k) = .frz) (hq : ∀ k, freshP q (.bl k) = .frz) (h : tE g W cf mk (.chain p q ca cb cc) σ H Q) : tChain (rP2 g p) (rP2 g q) (tE g W cf mk ca) (tE g W cf mk cb) (tE g W cf mk cc) σ H Q := by
  obtain ⟨env, P, φ, rel, z⟩ := h
  simp only [evE] at z
  refine tE_of_tD ⟨env, P, φ, rel, Post.bind back_W z ?_⟩
  intro d1 env1 v1 H1 P1 φ1 _ rel1 st1 dn1 k1
  refine tE_of_tD ⟨env1, P1, φ1, rel1, Post.bind back_W k1 ?_⟩
  intro d2 env2 v2 H2 P2 φ2 _ rel2 st2 dn2 k2
  have dn1' := Dn.mono st2.pm dn1
  simp only at k2
  split at k2
  · rename_i er
    refine ⟨P2, [d1, d2], _, rel2.sub, .cons (.inl dn1') (.cons (.inl dn2) .nil), er, fun v H' P' fp gr on nd ap => ?_⟩
    rw [hp] at on
    have on' := on.frz'.1
    cases on'
    refine ⟨true, rfl, ?_⟩
    show ite (true = true) _ _
    rw [if_pos rfl]
    have rel3 := rel2.grow gr
    refine tE_of_tD ⟨env2, P', φ2, rel3, Post.bind back_W (Post.rebase back_W k2 gr.step) ?_⟩
    intro d3 env3 v3 H3 P3 φ3 _ rel4 st3 dn3 k3
    simp only at k3
    split at k3
    · rename_i eq
      refine ⟨P3, [d2, d3], _, rel4.sub, .cons (.inl (Dn.mono (gr.pm.trans st3.pm) dn2)) (.cons (.inl dn3) .nil), eq, fun v H' P' fp gr on nd ap => ?_⟩
      rw [hq] at on
      have on' := on.frz'.1
      cases on'
      exact k3 _ _ _ _ (rel4.grow gr) gr.step ρD_bl
    · exact k3.elim
  · rename_i er
    refine ⟨P2, [d1, d2], _, rel2.sub, .cons (.inl dn1') (.cons (.inl dn2) .nil), er, fun v H' P' fp gr on nd ap => ?_⟩
    rw [hp] at on
    have on' := on.frz'.1
    cases on'
    refine ⟨false, rfl, ?_⟩
    show ite (false = true) _ _
    rw [if_neg Bool.false_ne_true]
    exact k2 _ _ _ _ (rel2.grow gr) gr.step ρD_bl
  · exact k2.elim
theorem cCmp_ok (G : Good g cf n kc X W) (R : ∀ e c, rec e = some c → PE X e (tE g W cf mk c)) {ops : List CmpOp} {bs : List Expr} {cd : C} (h : cCmp kc rec a ops bs = some cd) : PE X (.Compare a ops bs pos) (tE g W cf mk cd) ∧ PT X (.Compare a ops bs pos) (tT g W cf mk cd) := by
  unfold cCmp at h
  split at h
  · split at h
    · rename_i op b hns
      split at h
      · split at h
        · rename_i hn
          obtain ⟨ca, h1, rfl⟩ := Option.map_eq_some_iff.mp h
          exact ⟨e_isN (cArg_ok G R h1) (isNone_ok hn) (noSet_b hns), t_isN (cArg_ok G R h1) (isNone_ok hn) (noSet_b hns)⟩
        · cases h
      · split at h
        · rename_i hn
          obtain ⟨ca, h1, rfl⟩ := Option.map_eq_some_iff.mp h
          exact ⟨e_notN (cArg_ok G R h1) (isNone_ok hn) (noSet_b hns), t_notN (cArg_ok G R h1) (isNone_ok hn) (noSet_b hns)⟩
        · cases h
      · obtain ⟨p, h1, h⟩ := Option.bind_eq_some_iff.mp h
        obtain ⟨ca, h2, h⟩ := Option.bind_eq_some_iff.mp h
        obtain ⟨cb, h3, rfl⟩ := Option.map_eq_some_iff.mp h
        exact ⟨e_cmp (cmpP_ok G h1).1 (cArg_ok G R h2) (cArg_ok G R h3) (noSet_b hns), t_prim2 (cmpP_ok G h1).1 (cArg_ok G R h2) (cArg_ok G R h3) (noSet_b hns)⟩
    · cases h
  · split at h
    · rename_i op op' b c hns
      obtain ⟨p, h1, h⟩ := Option.bind_eq_some_iff.mp h
      obtain ⟨q, h2, h⟩ := Option.bind_eq_some_iff.mp h
      obtain ⟨ca, h3, h⟩ := Option.bind_eq_some_iff.mp h
      obtain ⟨cb, h4, h⟩ := Option.bind_eq_some_iff.mp h
      obtain ⟨cc, h5, rfl⟩ := Option.map_eq_some_iff.mp h
      exact ⟨(pe_chain (cmpP_ok G h1).1 (cmpP_ok G h2).1 (R _ _ h3) (R _ _ h4) (R _ _ h5) (noSet_l hns)).imp fun _ _ _ z => chain_imp (cmpP_ok G h1).2 (cmpP_ok G h2).2 z,
        (pt_chain (cmpP_ok G h1).1 (cmpP_ok G h2).1 (R _ _ h3) (R _ _ h4) (R _ _ h5) (noSet_l hns)).imp fun _ _ _ z => chain_imp (cmpP_ok G h1).2 (cmpP_ok G h2).2 z⟩
    · cases h
  · cases h
/-! ### and, or -/
def cBool (op : BoolOp) (rec : Expr → Option C) : List Expr → Option C
  | [] => none
  | [a] => rec a
  | a :: b :: r => (rec a).bind fun ca => (cBool op rec (b :: r)).map fun cb => match op with
    | .And => .and ca cb
    | .Or => .or ca cb
theorem cBool_ok (R : ∀ e c, rec e = some c → PE X e (tE g W cf mk c)) {op : BoolOp} : ∀ {es : List Expr} {cd : C}, cBool op rec es = some cd → PE X (.BoolOp op es pos) (tE g W cf mk cd)
  | [], _, h => by cases h
  | [a], _, h => e_one (R _ _ h)
  | a :: b :: r, cd, h => by
    unfold cBool at h
    obtain ⟨ca, h1, h⟩ := Option.bind_eq_some_iff.mp h
    obtain ⟨cb, h2, rfl⟩ := Option.map_eq_some_iff.mp h
    have ih := cBool_ok R h2
    cases op
    · exact e_and (R _ _ h1) ih
    · exact e_or (R _ _ h1) ih
theorem cBool_okT (R : ∀ e c, rec e = some c → PT X e (tT g W cf mk c)) {op : BoolOp} : ∀ {es : List Expr} {cd : C}, cBool op rec es = some cd → PW X (.BoolOp op es pos) (tT g W cf mk cd)
  | [], _, h => by cases h
  | [a], _, h => t_one (R _ _ h)
  | a :: b :: r, cd, h => by
    unfold cBool at h
    obtain ⟨ca, h1, h⟩ := Option.bind_eq_some_iff.mp h
    obtain ⟨cb, h2, rfl⟩ := Option.map_eq_some_iff.mp h
    have ih := cBool_okT R h2
    cases op
    · exact t_and (R _ _ h1) ih
    · exact t_or (R _ _ h1) ih
/-! ### subscripts -/
def isRev : Option Expr → Option Expr → Option Expr → Bool
  | none, none, some (.UnaryOp .USub (.Constant (.int 1) _ _) _) => true
  | _, _, _ => false
def cEnd (rec : Expr → Option C) : Option Expr → Option C
  | none => some .nil
  | some e => (rec e).bind fun c => if c.isNil then none else some c
theorem cEnd_ok (R : ∀ e c, rec e = some c → PE X e (tE g W cf mk c)) {oe : Option Expr} {cd : C} (h : cEnd rec oe = some cd) : L2.PO X oe (tO g W cf mk cd) := by
  cases oe with
  | none => cases h; exact po_nil
  | some e =>
    simp only [cEnd] at h
    obtain ⟨c1, h1, h⟩ := Option.bind_eq_some_iff.mp h
    split at h
    · cases h
    · rename_i hn
      cases h
      exact po_code (R _ _ h1) (by simpa using hn)
def cSub (kc : KC) (rec : Expr → Option C) (a : Expr) : Expr → Option C
  | .Slice lo hi none _ => (cArg kc rec a).bind fun ca => (cEnd rec lo).bind fun cl => (cEnd rec hi).map fun ch => .sl ca cl ch
  | .Slice lo hi st _ => if isRev lo hi st then (cArg kc rec a).map fun ca => .prim .rev (.cons ca .nil) else none
  | b => (cArg kc rec a).bind fun ca => (cArg kc rec b).map fun cb => .prim .item (.cons ca (.cons cb .nil))
theorem plain_ix (h : isSlice b = false) : PlainIx b := by
  intro o i
  cases b <;> first | rfl | cases h
theorem cSub_ok (G : Good g cf n kc X W) (R : ∀ e c, rec e = some c → PE X e (tE g W cf mk c)) {cd : C} (h : cSub kc rec a b = some cd) : PE X (.Subscript a b pos) (tE g W cf mk cd) := by
  have low : ∀ b, isSlice b = false → ((cArg kc rec a).bind fun ca => (cArg kc rec b).map fun cb => .prim .item (.cons ca (.cons cb .nil))) = some cd → PE X (.Subscript a b pos) (tE g W cf mk cd) := fun b hb h => by
    obtain ⟨ca, h1, h⟩ := Option.bind_eq_some_iff.mp h
    obtain ⟨cb, h2, rfl⟩ := Option.map_eq_some_iff.mp h
    exact e_item (r_item G.K G.hu) (cArg_ok G R h1) (cArg_ok G R h2) (plain_ix hb)
  cases b with
  | Slice lo hi st p =>
    cases st with
    | none =>
      simp only [cSub] at h
      obtain ⟨ca, h1, h⟩ := Option.bind_eq_some_iff.mp h
      obtain ⟨cl, h2, h⟩ := Option.bind_eq_some_iff.mp h
      obtain ⟨ch, h3, rfl⟩ := Option.map_eq_some_iff.mp h
      exact e_slice (r_slice G.K) (cArg_ok G R h1) (cEnd_ok R h2) (cEnd_ok R h3)
    | some st =>
      simp only [cSub] at h
      split at h
      · rename_i hr
        obtain ⟨ca, h1, rfl⟩ := Option.map_eq_some_iff.mp h
        unfold isRev at hr
        split at hr
        · rename_i heq
          cases heq
          exact e_revL G.K (cArg_ok G R h1)
        · cases hr
      · cases h
  | _ => exact low _ rfl h
/-! ### calls -/
/-- a built-in name that is free to be used -/
def isB (kc : KC) (x : Str) : Bool := isGl (kc.sc.names.lookup x) && decide (x ∈ kc.bs)
theorem isB_ok (G : Good g cf n kc X W) (h : isB kc x = true) : Gl X x ∧ X.mg x = none := by
  simp only [isB, Bool.and_eq_true, decide_eq_true_eq] at h
  exact ⟨G.gl h.1, G.bs _ h.2⟩
def bi1 (x : Str) : Option PV.P :=
  if x = "len" then some .len else if x = "abs" then some .abs else if x = "int" then some .int1 else if x = "max" then some .max1 else if x = "min" then some .min1 else
  if x = "sum" then some .sum else if x = "all" then some .all else if x = "any" then some .any else if x = "tuple" then some .tuple else if x = "list" then some .list else
  if x = "sorted" then some .sorted else if x = "repr" then some .repr else if x = "dict" then some .dict1 else none
def bi2 (x : Str) : Option PV.P := if x = "max" then some .max2 else if x = "min" then some .min2 else if x = "divmod" then some .divmod else none
theorem r_dict1 (hK : X.K = g.K) (hc : X.calm = true) : CallR X (.type "dict") (rPL g .dict1) := by
  intro pins s σ H xs us Q I r h
  obtain ⟨P, ds, d, sub, db, hr, k⟩ := h
  obtain ⟨a, rfl, hf⟩ := run1_some hr
  cases a with
  | lst zs => exact r_dictP hK hc pins s σ H xs us Q I r ⟨P, _, d, sub, db, hf, fun v H' P' fp gr on nd ap => k v H' P' fp gr (by cases d <;> exact on) nd ap⟩
  | dct zs ws => exact r_dictC pins s σ H xs us Q I r ⟨P, _, d, sub, db, hf, fun v H' P' fp gr on nd ap => k v H' P' fp gr (by cases d <;> exact on) nd ap⟩
  | _ => cases hf
theorem ite_elim {α : Type} {p : Prop} [Decidable p] {a b : Option α} {r : α} (h : (if p then a else b) = some r) : (p ∧ a = some r) ∨ (¬ p ∧ b = some r) := by
  by_cases hp : p
  · rw [if_pos hp] at h; exact .inl ⟨hp, h⟩
  · rw [if_neg hp] at h; exact .inr ⟨hp, h⟩
theorem bi1_ok (G : Good g cf n kc X W) {p : PV.P} (h : bi1 x = some p) (hb : isB kc x = true) (ha : PA X [e] (tArgs g W cf mk ca)) (hs : noStars [e] = true) : PE X (.Call (.Name x pp) [e] [] pos) (tE g W cf mk (.prim p ca)) := by
  obtain ⟨hg, hm⟩ := isB_ok G hb
  unfold bi1 at h
  replace h := ite_elim h; rcases h with ⟨e, h⟩ | ⟨_, h⟩
  · subst e; cases h; exact e_callB (r_len G.K) hg hm rfl (by decide) (by decide) ha hs
  replace h := ite_elim h; rcases h with ⟨e, h⟩ | ⟨_, h⟩
  · subst e; cases h; exact e_callB r_abs hg hm rfl (by decide) (by decide) ha hs
  replace h := ite_elim h; rcases h with ⟨e, h⟩ | ⟨_, h⟩
  · subst e; cases h; exact e_callTy r_int1 hg hm rfl (by decide) (by decide) ha hs
  replace h := ite_elim h; rcases h with ⟨e, h⟩ | ⟨_, h⟩
  · subst e; cases h; exact e_callB (r_max1 G.K G.calm) hg hm rfl (by decide) (by decide) ha hs
  replace h := ite_elim h; rcases h with ⟨e, h⟩ | ⟨_, h⟩
  · subst e; cases h; exact e_callB (r_min1 G.K G.calm) hg hm rfl (by decide) (by decide) ha hs
  replace h := ite_elim h; rcases h with ⟨e, h⟩ | ⟨_, h⟩
  · subst e; cases h; exact e_callB (r_sum G.K G.calm) hg hm rfl (by decide) (by decide) ha hs
  replace h := ite_elim h; rcases h with ⟨e, h⟩ | ⟨_, h⟩
  · subst e; cases h; exact e_callB (r_all G.K G.calm) hg hm rfl (by decide) (by decide) ha hs
  replace h := ite_elim h; rcases h with ⟨e, h⟩ | ⟨_, h⟩
  · subst e; cases h; exact e_callB (r_any G.K G.calm) hg hm rfl (by decide) (by decide) ha hs
  replace h := ite_elim h; rcases h with ⟨e, h⟩ | ⟨_, h⟩
  · subst e; cases h; exact e_callTy (r_tuple G.K) hg hm rfl (by decide) (by decide) ha hs
  replace h := ite_elim h; rcases h with ⟨e, h⟩ | ⟨_, h⟩
  · subst e; cases h; exact e_callTy (r_list G.K G.calm) hg hm rfl (by decide) (by decide) ha hs
  replace h := ite_elim h; rcases h with ⟨e, h⟩ | ⟨_, h⟩
  · subst e; cases h; exact e_callB (r_sorted G.K) hg hm rfl (by decide) (by decide) ha hs
  replace h := ite_elim h; rcases h with ⟨e, h⟩ | ⟨_, h⟩
  · subst e; cases h; exact e_callB (r_repr G.K G.gu G.hu64) hg hm rfl (by decide) (by decide) ha hs
  replace h := ite_elim h; rcases h with ⟨e, h⟩ | ⟨_, h⟩
  · subst e; cases h; exact e_callTy (r_dict1 G.K G.calm) hg hm rfl (by decide) (by decide) ha hs
  · cases h
theorem bi2_ok (G : Good g cf n kc X W) {p : PV.P} (h : bi2 x = some p) (hb : isB kc x = true) (ha : PA X [e, f] (tArgs g W cf mk ca)) (hs : noStars [e, f] = true) : PE X (.Call (.Name x pp) [e, f] [] pos) (tE g W cf mk (.prim p ca)) := by
  obtain ⟨hg, hm⟩ := isB_ok G hb
  unfold bi2 at h
  split at h
  · rename_i e; subst e; cases h; exact e_callB (r_max2 G.calm) hg hm rfl (by decide) (by decide) ha hs
  split at h
  · rename_i e; subst e; cases h; exact e_callB (r_min2 G.calm) hg hm rfl (by decide) (by decide) ha hs
  split at h
  · rename_i e; subst e; cases h; exact e_callB r_divmod hg hm rfl (by decide) (by decide) ha hs
  · cases h
def tyOf (x : Str) : Option Ty := if x = "int" then some .int else if x = "bool" then some .bool else if x = "str" then some .str else if x = "list" then some .list else if x = "tuple" then some .tuple else if x = "dict" then some .dict else none
theorem tyOf_ok (G : Good g cf n kc X W) {t : Ty} (h : tyOf x = some t) (hb : isB kc x = true) : PE X (.Name x pp) (L2.tC (.ty t.name)) := by
  obtain ⟨hg, hm⟩ := isB_ok G hb
  unfold tyOf at h
  split at h
  · rename_i e; subst e; cases h; exact pe_bltn hg hm (u := .type "int") rfl rfl (by decide) (by decide)
  split at h
  · rename_i e; subst e; cases h; exact pe_bltn hg hm (u := .type "bool") rfl rfl (by decide) (by decide)
  split at h
  · rename_i e; subst e; cases h; exact pe_bltn hg hm (u := .type "str") rfl rfl (by decide) (by decide)
  split at h
  · rename_i e; subst e; cases h; exact pe_bltn hg hm (u := .type "list") rfl rfl (by decide) (by decide)
  split at h
  · rename_i e; subst e; cases h; exact pe_bltn hg hm (u := .type "tuple") rfl rfl (by decide) (by decide)
  split at h
  · rename_i e; subst e; cases h; exact pe_bltn hg hm (u := .type "dict") rfl rfl (by decide) (by decide)
  · cases h
/-- where each parameter's value stands -/
def mkPerm (given : List Str) : List Str → Option (List Nat)
  | [] => some []
  | p :: r => (idx given p).bind fun i => (mkPerm given r).map (i :: ·)
theorem mkPerm_ok {given : List Str} : ∀ {ps : List Str} {ks : List Nat}, mkPerm given ps = some ks → permL given ks = some ps ∧ ks.length = ps.length
  | [], _, h => by cases h; exact ⟨rfl, rfl⟩
  | p :: r, ks, h => by
    simp only [mkPerm] at h
    obtain ⟨i, h1, h⟩ := Option.bind_eq_some_iff.mp h
    obtain ⟨is, h2, rfl⟩ := Option.map_eq_some_iff.mp h
    obtain ⟨q1, q2⟩ := mkPerm_ok h2
    exact ⟨by simp only [permL, idx_ok h1, q1, Option.bind_some, Option.map_some], by simp [q2]⟩
def allFrz : List PV.W → Bool
  | [] => true
  | w :: r => w.isFrz && allFrz r
theorem allFrz_ok : ∀ {ws : List PV.W}, allFrz ws = true → ws = List.replicate ws.length .frz
  | [], _ => rfl
  | w :: r, h => by
    simp only [allFrz, Bool.and_eq_true] at h
    have e : w = .frz := by cases w <;> first | rfl | cases h.1
    rw [e, List.length_cons, List.replicate_succ, ← allFrz_ok h.2]
def isC0 : Expr → Bool
  | .Constant (.int 0) _ _ => true
  | _ => false
theorem isC0_ok (h : isC0 b = true) : PE X b (L2.tC (.int 0)) := by
  unfold isC0 at h
  split at h
  · exact pe_int
  · cases h
def kwVals : List Keyword → List Expr
  | [] => []
  | ⟨_, e, _⟩ :: r => e :: kwVals r
theorem pk_vs (R : ∀ e c, rec e = some c → PE X e (tE g W cf mk c)) : ∀ {kws : List Keyword} {cd : C}, cVs rec (kwVals kws) = some cd → PK X kws (tVs g W cf mk cd)
  | [], cd, h => by cases h; exact pk_vs_nil
  | ⟨nm, e, p⟩ :: r, cd, h => by
    simp only [kwVals] at h
    unfold cVs at h
    split at h
    · cases h
    · obtain ⟨c1, h1, h2⟩ := Option.bind_eq_some_iff.mp h
      obtain ⟨c2, h3, rfl⟩ := Option.map_eq_some_iff.mp h2
      exact pk_vs_cons (R _ _ h1) (pk_vs R h3)
def isNameE : Expr → Bool
  | .Name _ _ => true
  | _ => false
/-- a call of a def -/
def cCallF (kc : KC) (rec : Expr → Option C) (gf : GF) (args : List Expr) (kws : List Keyword) : Option C := match kws with
  | [] => match args with
    | [] => match gf.ws with
      | [] => some (.call gf.k gf.rw .nil)
      | _ => none
    | e :: r => match gf.ws with
      | [] => none
      | w :: ws => if !w.isFrz && !isNameE e then (if isStar e then none else (rec e).bind fun c1 => (cCs kc rec r ws).bind fun c2 => if ioOnce c2 then some (.callM gf.k gf.rw w c1 c2) else none)
        else (cCs kc rec (e :: r) gf.ws).bind fun c => if ioOnce c then some (.call gf.k gf.rw c) else none
  | kws => if allFrz gf.ws && decide (gf.ws.length = gf.ps.length) then (kwNames kws).bind fun ns => (mkPerm (gf.ps.take args.length ++ ns) gf.ps).bind fun p =>
      if decide (args.length + ns.length = gf.ps.length) && decide ((gf.ps.take args.length ++ ns).Nodup) && ns.all (fun k => decide (k ∈ gf.ps)) then (cVs rec args).bind fun ca => (cVs rec (kwVals kws)).map fun cb => .callK gf.k p ca cb else none else none
/-- dict(enumerate(a)) -/
def dictEnum (x : Str) : Expr → Option Expr
  | .Call (.Name y _) [a] [] _ => if x = "dict" then if y = "enumerate" then some a else none else none
  | _ => none
def cCallB (kc : KC) (rec : Expr → Option C) (x : Str) : List Expr → Option C
  | [a] => if (dictEnum x a).isSome && isB kc "enumerate" then (dictEnum x a).bind fun a' => if isStar a' then none else (cArg kc rec a').map fun ca => .prim .dictE (.cons ca .nil) else (bi1 x).bind fun p => (cArgs kc rec [a]).map fun ca => .prim p ca
  | [a, b] => if x = "isinstance" then (match b with
      | .Name y _ => if isB kc y && !isStar a then (tyOf y).bind fun t => (cArg kc rec a).map fun ca => .prim (.isa [t]) (.cons ca .nil) else none
      | _ => none) else if x = "sum" then (if isC0 b && !isStar a then (cArg kc rec a).map fun ca => .prim .sum0 (.cons ca .nil) else none) else
      (bi2 x).bind fun p => (cArgs kc rec [a, b]).map fun ca => .prim p ca
  | _ => none
theorem kwNames_len : ∀ {kws : List Keyword} {ns : List Str}, kwNames kws = some ns → kws.length = ns.length
  | [], _, h => by cases h; rfl
  | ⟨none, _, _⟩ :: _, _, h => by cases h
  | ⟨some _, _, _⟩ :: r, ns, h => by
    simp only [kwNames] at h
    obtain ⟨ms, e, rfl⟩ := Option.map_eq_some_iff.mp h
    simp [kwNames_len e]
theorem cVs_len : ∀ {es : List Expr} {c : C}, cVs rec es = some c → c.len = es.length
  | [], c, h => by cases h; rfl
  | e :: r, c, h => by
    unfold cVs at h
    split at h
    · cases h
    · obtain ⟨c1, h1, h2⟩ := Option.bind_eq_some_iff.mp h
      obtain ⟨c2, h3, rfl⟩ := Option.map_eq_some_iff.mp h2
      simp only [C.len, List.length_cons, cVs_len h3]
theorem kwVals_len : ∀ {kws : List Keyword}, (kwVals kws).length = kws.length
  | [] => rfl
  | ⟨_, _, _⟩ :: r => by simp only [kwVals, List.length_cons, kwVals_len]
theorem cCallF_ok (G : Good g cf n kc X W) (R : ∀ e c, rec e = some c → PE X e (tE g W cf mk c)) {gf : GF} {args : List Expr} {kws : List Keyword} {cd : C} (hf : findF kc.fs x = some gf) (hg : isGl (kc.sc.names.lookup x) = true) (hd : (x == ("__debug__" : Str)) = false)
    (h : cCallF kc rec gf args kws = some cd) : PE X (.Call (.Name x pp) args kws pos) (tE g W cf mk cd) := by
  obtain ⟨hm, rfl⟩ := findF_ok hf
  obtain ⟨fd, f1, f2, f3, f4, f5⟩ := G.fs gf hm
  unfold cCallF at h
  split at h
  · split at h
    · split at h
      · rename_i hw
        cases h
        rw [hw] at f3
        exact e_call0 G.cfok f3 G.gu G.room (G.gl hg) f1 f2 f4 G.tk hd
      · cases h
    · rename_i e r
      split at h
      · cases h
      · rename_i w ws hw
        replace h := ite_elim h; rcases h with ⟨c, h⟩ | ⟨c, h⟩
        · replace h := ite_elim h; rcases h with ⟨c, h⟩ | ⟨hs, h⟩
          · cases h
          obtain ⟨c1, h1, h⟩ := Option.bind_eq_some_iff.mp h
          obtain ⟨c2, h2, h⟩ := Option.bind_eq_some_iff.mp h
          replace h := ite_elim h; rcases h with ⟨ho, h⟩ | ⟨_, h⟩
          · cases h
            obtain ⟨q1, q2, q3⟩ := cCs_ok G R h2
            rw [hw, ← q3] at f3
            exact e_callM G.cfok f3 G.gu G.room (G.gl hg) f1 f2 f4 G.tk hd (R _ _ h1) (by simpa using hs) q1 ho q2
          · cases h
        · obtain ⟨c, h1, h⟩ := Option.bind_eq_some_iff.mp h
          replace h := ite_elim h; rcases h with ⟨ho, h⟩ | ⟨_, h⟩
          · cases h
            obtain ⟨q1, q2, q3⟩ := cCs_ok G R h1
            exact e_call G.cfok (by rw [q3]; exact f3) G.gu G.room (G.gl hg) f1 f2 f4 G.tk hd q1 ho q2
          · cases h
  · split at h
    · rename_i hw
      simp only [Bool.and_eq_true, decide_eq_true_eq] at hw
      obtain ⟨ns, h1, h⟩ := Option.bind_eq_some_iff.mp h
      obtain ⟨p, h2, h⟩ := Option.bind_eq_some_iff.mp h
      split at h
      · rename_i hl
        simp only [Bool.and_eq_true, decide_eq_true_eq, List.all_eq_true] at hl
        obtain ⟨⟨hl, hl2⟩, hl3⟩ := hl
        obtain ⟨ca, h3, h⟩ := Option.bind_eq_some_iff.mp h
        obtain ⟨cb, h4, rfl⟩ := Option.map_eq_some_iff.mp h
        obtain ⟨q1, q2⟩ := mkPerm_ok h2
        obtain ⟨a1, a2⟩ := cVs_ok R h3
        have ew := allFrz_ok hw.1
        rw [ew, hw.2, ← q2] at f3
        have l1 : ca.len = args.length := cVs_len h3
        have l2 : cb.len = ns.length := by rw [cVs_len h4, kwVals_len, kwNames_len h1]
        refine e_callK G.cfok f3 G.gu G.room (G.gl hg) f1 f2 (fun s us ws zs e1 e2 hp => ?_) G.tk hd a1 (pk_vs R h4) h1 a2 (fun e => by subst e; cases h3; rfl)
        exact f5 ns s us ws zs p (by rw [e1, l1]; exact hl2) hl3 (by rw [e1, l1]; exact q1) (by rw [e1, l1]; exact hl) (by rw [e1, e2, l1, l2]; exact hl) hp
      · cases h
    · cases h
end
end PV
end

section
set_option Elab.async false
set_option linter.all false
set_option maxRecDepth 100000
set_option maxHeartbeats 1000000
/-! PV21: from the text to its code: the rest of the expressions. -/
namespace PV
open PySem L2

section
variable {X : Cx} {g : Gx} {W : WX} {cf mk : CF} {n : Nat} {kc : KC} {a b c e f o t tg it elt : Expr} {es ifs : List Expr} {ca cb cc : C} {pos p2 pp apos cpos : Pos} {x : Str} {i : Nat} {rec : Expr → Option C} {recT : Expr → Option C}
theorem cCallB_ok (G : Good g cf n kc X W) (R : ∀ e c, rec e = some c → PE X e (tE g W cf mk c)) {args : List Expr} {cd : C} (hb : isB kc x = true) (h : cCallB kc rec x args = some cd) : PE X (.Call (.Name x pp) args [] pos) (tE g W cf mk cd) := by
  unfold cCallB at h
  split at h
  · replace h := ite_elim h; rcases h with ⟨c, h⟩ | ⟨_, h⟩
    · simp only [Bool.and_eq_true] at c
      obtain ⟨a', h1, h⟩ := Option.bind_eq_some_iff.mp h
      replace h := ite_elim h; rcases h with ⟨_, h⟩ | ⟨hs, h⟩
      · cases h
      obtain ⟨ca, h2, rfl⟩ := Option.map_eq_some_iff.mp h
      have c2 := c.2
      clear c
      unfold dictEnum at h1
      split at h1
      · replace h1 := ite_elim h1; rcases h1 with ⟨e1, h1⟩ | ⟨_, h1⟩
        · replace h1 := ite_elim h1; rcases h1 with ⟨e2, h1⟩ | ⟨_, h1⟩
          · cases h1
            subst e1
            subst e2
            obtain ⟨hg, hm⟩ := isB_ok G hb
            obtain ⟨hg2, hm2⟩ := isB_ok G c2
            exact e_dictE G.K G.calm hg hm hg2 hm2 (cArg_ok G R h2) (by simpa using hs)
          · cases h1
        · cases h1
      · cases h1
    · obtain ⟨p, h1, h⟩ := Option.bind_eq_some_iff.mp h
      obtain ⟨ca, h2, rfl⟩ := Option.map_eq_some_iff.mp h
      obtain ⟨q1, q2⟩ := cArgs_ok G R h2
      exact bi1_ok G h1 hb q1 q2
  · rename_i a b
    replace h := ite_elim h; rcases h with ⟨e, h⟩ | ⟨_, h⟩
    · subst e
      split at h
      · rename_i y py
        replace h := ite_elim h; rcases h with ⟨e, h⟩ | ⟨_, h⟩
        · simp only [Bool.and_eq_true, Bool.not_eq_true'] at e
          obtain ⟨t, h1, h⟩ := Option.bind_eq_some_iff.mp h
          obtain ⟨ca, h2, rfl⟩ := Option.map_eq_some_iff.mp h
          obtain ⟨hg, hm⟩ := isB_ok G hb
          exact e_isa G.K hg hm (cArg_ok G R h2) (tyOf_ok G h1 e.1) e.2 rfl
        · cases h
      · cases h
    · replace h := ite_elim h; rcases h with ⟨e, h⟩ | ⟨_, h⟩
      · subst e
        replace h := ite_elim h; rcases h with ⟨e, h⟩ | ⟨_, h⟩
        · simp only [Bool.and_eq_true, Bool.not_eq_true'] at e
          obtain ⟨ca, h2, rfl⟩ := Option.map_eq_some_iff.mp h
          obtain ⟨hg, hm⟩ := isB_ok G hb
          refine e_sum0 G.K G.calm hg hm (cArg_ok G R h2) (isC0_ok e.1) e.2 ?_
          cases b <;> first | rfl | (exfalso; revert e; simp [isC0])
        · cases h
      · obtain ⟨p, h1, h⟩ := Option.bind_eq_some_iff.mp h
        obtain ⟨ca, h2, rfl⟩ := Option.map_eq_some_iff.mp h
        obtain ⟨q1, q2⟩ := cArgs_ok G R h2
        exact bi2_ok G h1 hb q1 q2
  · cases h
/-! ### methods -/
/-- a receiver that is no call of super() -/
def isCall : Expr → Bool
  | .Call _ _ _ _ => true
  | _ => false
theorem base_ok {m : Str} (h : isCall o = false) : attributeBase o m X.env (eval o X.env) = eval o X.env := by
  unfold attributeBase
  cases o <;> first | rfl | cases h
def slotOf (kc : KC) : Expr → Option Nat
  | .Name x _ => kc.slot x
  | _ => none
theorem slotOf_ok (G : Good g cf n kc X W) (h : slotOf kc o = some i) : PE X o (tVar i) ∧ isCall o = false := by
  cases o with
  | Name x p => exact ⟨G.slot h, rfl⟩
  | _ => cases h
def cMeth (kc : KC) (rec : Expr → Option C) (o : Expr) (m : Str) (apos cpos : Pos) (args : List Expr) : Option C :=
  if !(apos.endLine == cpos.line) || isCall o then none else match args with
  | [] => if m = "pop" then (slotOf kc o).map fun i => .pop i [] else none
  | [e] => if isStar e then none else if m = "pop" then (slotOf kc o).bind fun i => (rec e).map fun c => .popAt i [] c else if m = "get" then (cArg kc rec o).bind fun ca => (rec e).map fun cb => .get ca cb .nil else none
  | [e, f] => if isStar e || isStar f then none else if m = "get" then (cArg kc rec o).bind fun ca => (rec e).bind fun cb => (rec f).bind fun cc => if cc.isNil then none else some (.get ca cb cc) else none
  | _ => none
theorem cMeth_ok (G : Good g cf n kc X W) (R : ∀ e c, rec e = some c → PE X e (tE g W cf mk c)) {m : Str} {args : List Expr} {cd : C} (h : cMeth kc rec o m apos cpos args = some cd) : PE X (.Call (.Attribute o m apos) args [] cpos) (tE g W cf mk cd) := by
  unfold cMeth at h
  replace h := ite_elim h; rcases h with ⟨e, h⟩ | ⟨e, h⟩
  · cases h
  simp only [Bool.or_eq_true, Bool.not_eq_true', not_or, Bool.not_eq_false, Bool.not_eq_true] at e
  obtain ⟨hl, hc⟩ := e
  split at h
  · replace h := ite_elim h; rcases h with ⟨e, h⟩ | ⟨e, h⟩
    · subst e
      obtain ⟨i, h1, rfl⟩ := Option.map_eq_some_iff.mp h
      exact e_pop (slotOf_ok G h1).1 (base_ok hc) hl
    · cases h
  · replace h := ite_elim h; rcases h with ⟨e, h⟩ | ⟨hs, h⟩
    · cases h
    replace h := ite_elim h; rcases h with ⟨e, h⟩ | ⟨e, h⟩
    · subst e
      obtain ⟨i, h1, h⟩ := Option.bind_eq_some_iff.mp h
      obtain ⟨c, h2, rfl⟩ := Option.map_eq_some_iff.mp h
      exact e_popAt (slotOf_ok G h1).1 (R _ _ h2) (by simpa using hs) (base_ok hc) hl
    · replace h := ite_elim h; rcases h with ⟨e, h⟩ | ⟨e, h⟩
      · subst e
        obtain ⟨ca, h1, h⟩ := Option.bind_eq_some_iff.mp h
        obtain ⟨cb, h2, rfl⟩ := Option.map_eq_some_iff.mp h
        exact e_get1 G.hu (cArg_ok G R h1) (R _ _ h2) (by simpa using hs) (base_ok hc) hl
      · cases h
  · replace h := ite_elim h; rcases h with ⟨e, h⟩ | ⟨hs, h⟩
    · cases h
    simp only [Bool.or_eq_true, not_or, Bool.not_eq_true] at hs
    replace h := ite_elim h; rcases h with ⟨e, h⟩ | ⟨e, h⟩
    · subst e
      obtain ⟨ca, h1, h⟩ := Option.bind_eq_some_iff.mp h
      obtain ⟨cb, h2, h⟩ := Option.bind_eq_some_iff.mp h
      obtain ⟨cc, h3, h⟩ := Option.bind_eq_some_iff.mp h
      replace h := ite_elim h; rcases h with ⟨e, h⟩ | ⟨e, h⟩
      · cases h
      · cases h
        exact e_get2 G.hu (cArg_ok G R h1) (R _ _ h2) (R _ _ h3) (by simpa using e) hs.1 hs.2 (base_ok hc) hl
    · cases h
  · cases h
def cCall (kc : KC) (rec : Expr → Option C) (cpos : Pos) : Expr → List Expr → List Keyword → Option C
  | .Name x _, args, kws => if isGl (kc.sc.names.lookup x) && !(x == ("__debug__" : Str)) then (match findF kc.fs x with
      | some gf => cCallF kc rec gf args kws
      | none => match kws with
        | [] => if isB kc x then cCallB kc rec x args else none
        | _ => none) else none
  | .Attribute o m apos, args, [] => cMeth kc rec o m apos cpos args
  | _, _, _ => none
theorem cCall_ok (G : Good g cf n kc X W) (R : ∀ e c, rec e = some c → PE X e (tE g W cf mk c)) {args : List Expr} {kws : List Keyword} {cd : C} (h : cCall kc rec cpos f args kws = some cd) : PE X (.Call f args kws cpos) (tE g W cf mk cd) := by
  unfold cCall at h
  split at h
  · replace h := ite_elim h; rcases h with ⟨e, h⟩ | ⟨e, h⟩
    · simp only [Bool.and_eq_true, Bool.not_eq_true'] at e
      split at h
      · rename_i gf hf
        exact cCallF_ok G R hf e.1 e.2 h
      · split at h
        · replace h := ite_elim h; rcases h with ⟨e, h⟩ | ⟨e, h⟩
          · exact cCallB_ok G R e h
          · cases h
        · cases h
    · cases h
  · exact cMeth_ok G R h
  · cases h
/-! ### dicts -/
def cPairs (rec : Expr → Option C) : List (Option Expr) → List Expr → Option C
  | [], [] => some .nil
  | some k :: ks, v :: vs => (rec k).bind fun ck => (rec v).bind fun cv => (cPairs rec ks vs).map fun cr => .cons ck (.cons cv cr)
  | _, _ => none
theorem cPairs_ok (R : ∀ e c, rec e = some c → PE X e (tE g W cf mk c)) : ∀ {ks : List (Option Expr)} {vs : List Expr} {cd : C}, cPairs rec ks vs = some cd → ∃ trs, IsPairs g W cf mk cd trs ∧ PPs X pos ks vs trs ∧ ks.all (·.isSome) = true ∧ ks.length = vs.length
  | [], [], _, h => by cases h; exact ⟨[], .nil, pps_nil, rfl, rfl⟩
  | [], _ :: _, _, h => by cases h
  | none :: _, _, _, h => by simp [cPairs] at h
  | some _ :: _, [], _, h => by simp [cPairs] at h
  | some k :: ks, v :: vs, cd, h => by
    simp only [cPairs] at h
    obtain ⟨ck, h1, h⟩ := Option.bind_eq_some_iff.mp h
    obtain ⟨cv, h2, h⟩ := Option.bind_eq_some_iff.mp h
    obtain ⟨cr, h3, rfl⟩ := Option.map_eq_some_iff.mp h
    obtain ⟨trs, q1, q2, q3, q4⟩ := cPairs_ok R h3
    exact ⟨_, .cons q1, pps_cons (R _ _ h1) (R _ _ h2) q2, by simpa using q3, by simp [q4]⟩
def cDict (rec : Expr → Option C) (ks : List (Option Expr)) (vs : List Expr) : Option C := match ks, vs with
  | [], [] => some (.dct .nil)
  | ks, vs => if ks.length ≤ 15 then (cPairs rec ks vs).map .dct else none
theorem cDict_ok (R : ∀ e c, rec e = some c → PE X e (tE g W cf mk c)) {ks : List (Option Expr)} {vs : List Expr} {cd : C} (h : cDict rec ks vs = some cd) : PE X (.Dict ks vs pos) (tE g W cf mk cd) := by
  unfold cDict at h
  split at h
  · cases h; exact e_dct0
  · rename_i hne
    replace h := ite_elim h; rcases h with ⟨e, h⟩ | ⟨e, h⟩
    · obtain ⟨c, h1, rfl⟩ := Option.map_eq_some_iff.mp h
      obtain ⟨trs, q1, q2, q3, q4⟩ := cPairs_ok (pos := pos) R h1
      exact e_dct q1 q2 q3 q4 (fun z => by subst z; cases vs with | nil => exact hne rfl rfl | cons => cases q4) e
    · cases h
/-! ### targets, what is walked -/
mutual
def cTg (kc : KC) (ks : List Nat) : Nat → Expr → Option C
  | 0, _ => none
  | m + 1, e => match e with
    | .Name x _ => (kc.slotL x).bind fun i => if i ∈ ks then none else some (.tgName i)
    | .Tuple es _ _ => (cTgs kc ks m es).map .tgTup
    | _ => none
def cTgs (kc : KC) (ks : List Nat) : Nat → List Expr → Option C
  | _, [] => some .nil
  | 0, _ => none
  | m + 1, e :: r => if isStar e then none else (cTg kc ks m e).bind fun c => (cTgs kc ks m r).map (.cons c ·)
end
theorem each_of (env : PySem.Env) : ∀ {es : List Expr}, noStars es = true → assignEach es env = es.map fun e => (false, assign e env)
  | [], _ => rfl
  | e :: es, h => by
    simp only [noStars, Bool.and_eq_true, Bool.not_eq_true'] at h
    have ih := each_of env h.2
    cases e <;> first | (cases h.1; done) | (simp only [assignEach, List.map_cons, ih])
mutual
theorem cTg_ok (G : Good g cf n kc X W) {ks : List Nat} : ∀ (m : Nat) {e : Expr} {cd : C}, cTg kc ks m e = some cd → PG X e (tG g cd) ∧ (∀ j ∈ tgs cd, j ∉ ks) ∧ isStar e = false
  | 0, _, _, h => by cases h
  | m + 1, e, cd, h => by
    unfold cTg at h
    split at h
    · obtain ⟨i, h1, h⟩ := Option.bind_eq_some_iff.mp h
      replace h := ite_elim h; rcases h with ⟨e, h⟩ | ⟨hi, h⟩
      · cases h
      · cases h
        obtain ⟨q1, q2, q3⟩ := G.slotL h1
        exact ⟨g_name G.nd q1 q2 q3, fun j hj => by simp only [tgs, List.mem_singleton] at hj; rw [hj]; exact hi, rfl⟩
    · obtain ⟨c, h1, rfl⟩ := Option.map_eq_some_iff.mp h
      obtain ⟨q1, q2, q3, q4⟩ := cTgs_ok G m h1
      have ea := each_of X.env q3
      exact ⟨g_tup G.K G.calm q1 rfl (by rw [ea, List.length_map, q4]) (by rw [ea]; simp [List.findIdx?_eq_none_iff]), q2, rfl⟩
    · cases h
theorem cTgs_ok (G : Good g cf n kc X W) {ks : List Nat} : ∀ (m : Nat) {es : List Expr} {cd : C}, cTgs kc ks m es = some cd → PGs X es (tGs g cd) ∧ (∀ j ∈ tgss cd, j ∉ ks) ∧ noStars es = true ∧ cd.len = es.length
  | m, [], cd, h => by
    have : cd = .nil := by cases m <;> (simp only [cTgs, Option.some.injEq] at h; exact h.symm)
    subst this
    exact ⟨gs_nil, fun j hj => by simp [tgss] at hj, rfl, rfl⟩
  | 0, _ :: _, cd, h => by simp [cTgs] at h
  | m + 1, e :: r, cd, h => by
    simp only [cTgs] at h
    replace h := ite_elim h; rcases h with ⟨_, h⟩ | ⟨hs, h⟩
    · cases h
    · have hs : isStar e = false := by simpa using hs
      obtain ⟨c1, h1, h⟩ := Option.bind_eq_some_iff.mp h
      obtain ⟨c2, h2, rfl⟩ := Option.map_eq_some_iff.mp h
      obtain ⟨q1, q2, _⟩ := cTg_ok G m h1
      obtain ⟨r1, r2, r3, r4⟩ := cTgs_ok G m h2
      have ea := each_of X.env (es := e :: r) (by simp [noStars, hs, r3])
      have eb := each_of X.env r3
      refine ⟨gs_cons q1 r1 (by rw [ea, eb]; rfl), fun j hj => ?_, by simp [noStars, hs, r3], by simp [C.len, r4]⟩
      simp only [tgss, List.mem_append] at hj
      rcases hj with hj | hj
      · exact q2 j hj
      · exact r2 j hj
end
def isTupE : Expr → Bool
  | .Tuple _ _ _ => true
  | _ => false
def cIt (kc : KC) (rec : Expr → Option C) (tg it : Expr) : Option C := match it with
  | .Call (.Name x _) [a] [] _ => if isB kc x && decide (x = "range") && !isStar a then (rec a).map .itRange1 else if isB kc x && decide (x = "enumerate") && isTupE tg && !isStar a then (rec a).map .itEnum else (rec it).map .itVal
  | .Call (.Name x _) [a, b] [] _ => if isB kc x && decide (x = "range") && !isStar a && !isStar b then (rec a).bind fun ca => (rec b).map fun cb => .itRange2 ca cb else
      if isB kc x && decide (x = "zip") && isTupE tg && !isStar a && !isStar b then (rec a).bind fun ca => (rec b).map fun cb => .itZip ca cb else (rec it).map .itVal
  | _ => (rec it).map .itVal
theorem cIt_ok (G : Good g cf n kc X W) (R : ∀ e c, rec e = some c → PE X e (tE g W cf mk c)) {cd : C} (h : cIt kc rec tg it = some cd) : PI X tg it (tI g W cf mk cd) := by
  have low : ∀ it, (rec it).map .itVal = some cd → PI X tg it (tI g W cf mk cd) := fun it h => by
    obtain ⟨c, h1, rfl⟩ := Option.map_eq_some_iff.mp h
    exact i_val G.K (R _ _ h1)
  unfold cIt at h
  split at h
  · replace h := ite_elim h; rcases h with ⟨e, h⟩ | ⟨_, h⟩
    · simp only [Bool.and_eq_true, decide_eq_true_eq, Bool.not_eq_true'] at e
      obtain ⟨⟨e1, e2⟩, e3⟩ := e
      subst e2
      obtain ⟨hg, hm⟩ := isB_ok G e1
      obtain ⟨ca, h1, rfl⟩ := Option.map_eq_some_iff.mp h
      exact i_range1 hg hm (R _ _ h1) e3
    · replace h := ite_elim h; rcases h with ⟨e, h⟩ | ⟨_, h⟩
      · simp only [Bool.and_eq_true, decide_eq_true_eq, Bool.not_eq_true'] at e
        obtain ⟨⟨⟨e1, e2⟩, e3⟩, e4⟩ := e
        subst e2
        obtain ⟨hg, hm⟩ := isB_ok G e1
        obtain ⟨ca, h1, rfl⟩ := Option.map_eq_some_iff.mp h
        cases tg <;> first | (cases e3; done) | exact i_enum G.K hg hm (R _ _ h1) e4
      · exact low _ h
  · replace h := ite_elim h; rcases h with ⟨e, h⟩ | ⟨_, h⟩
    · simp only [Bool.and_eq_true, decide_eq_true_eq, Bool.not_eq_true'] at e
      obtain ⟨⟨⟨e1, e2⟩, e3⟩, e4⟩ := e
      subst e2
      obtain ⟨hg, hm⟩ := isB_ok G e1
      obtain ⟨ca, h1, h⟩ := Option.bind_eq_some_iff.mp h
      obtain ⟨cb, h2, rfl⟩ := Option.map_eq_some_iff.mp h
      exact i_range2 hg hm (R _ _ h1) (R _ _ h2) e3 e4
    · replace h := ite_elim h; rcases h with ⟨e, h⟩ | ⟨_, h⟩
      · simp only [Bool.and_eq_true, decide_eq_true_eq, Bool.not_eq_true'] at e
        obtain ⟨⟨⟨⟨e1, e2⟩, e3⟩, e4⟩, e5⟩ := e
        subst e2
        obtain ⟨hg, hm⟩ := isB_ok G e1
        obtain ⟨ca, h1, h⟩ := Option.bind_eq_some_iff.mp h
        obtain ⟨cb, h2, rfl⟩ := Option.map_eq_some_iff.mp h
        cases tg <;> first | (cases e3; done) | exact i_zip G.K hg hm (R _ _ h1) (R _ _ h2) e4 e5
      · exact low _ h
  · exact low _ h
end
end PV
end

section
set_option Elab.async false
set_option linter.all false
set_option maxRecDepth 100000
set_option maxHeartbeats 1000000
/-! PV22: from the text to its code: expressions whole. -/
namespace PV
open PySem L2

def ownOf (N : List Str) : List (Str × NameKind) → List (Str × Nat)
  | [] => []
  | (x, k) :: r => if locK (some k) then (match idx N x with
    | some i => (x, i) :: ownOf N r
    | none => ownOf N r) else ownOf N r
def reS (scope sc : Scope) : Scope := { scope with names := scope.names.map fun (n, k) => if (k == .free && sc.kind == .function && sc.names.lookup n == some .cell) then (n, .cell) else (n, k) }
def KC.at (kc : KC) (sc : Scope) : KC := { kc with sc := reS sc kc.sc, st := some ((ownOf kc.N sc.names).map (·.1)) }
theorem own_mem {N : List Str} {x : Str} : ∀ {names : List (Str × NameKind)}, x ∈ (ownOf N names).map (·.1) → ∃ k, (x, k) ∈ names ∧ locK (some k) = true
  | [], h => by simp [ownOf] at h
  | (y, k) :: r, h => by
    unfold ownOf at h
    split at h
    · rename_i hk
      split at h
      · rename_i i hi
        simp only [List.map_cons, List.mem_cons] at h
        rcases h with rfl | h
        · exact ⟨k, List.mem_cons_self, hk⟩
        · obtain ⟨k', h1, h2⟩ := own_mem h
          exact ⟨k', List.mem_cons_of_mem _ h1, h2⟩
      · obtain ⟨k', h1, h2⟩ := own_mem h
        exact ⟨k', List.mem_cons_of_mem _ h1, h2⟩
    · obtain ⟨k', h1, h2⟩ := own_mem h
      exact ⟨k', List.mem_cons_of_mem _ h1, h2⟩
def cIfs (recT : Expr → Option C) : List Expr → Option C
  | [] => some (.lit (.bl true))
  | [c] => recT c
  | _ => none
def cComp (kc : KC) (rec rec' recT' : Expr → Option C) (elt : Expr) (gens : List Comprehension) (scope : Scope) : Option C := match gens with
  | [⟨tg, it, ifs, 0⟩] => if blkC kc.N kc.sc scope (ownOf kc.N scope.names) && noSet it then
      (cTg (kc.at scope) [] 50 tg).bind fun ct => (cIt kc rec tg it).bind fun ci => (cIfs recT' ifs).bind fun cc => (rec' elt).bind fun ce =>
        if (tgs ct).all (fun j => decide (j ∈ (ownOf kc.N scope.names).map (·.2))) then some (.comp ct ci cc ce ((ownOf kc.N scope.names).map (·.2))) else none
    else none
  | _ => none
section
variable {X : Cx} {g : Gx} {W : WX} {cf mk : CF} {n : Nat} {kc : KC} {a b c e f o t tg it elt : Expr} {es ifs : List Expr} {ca cb cc : C} {pos p2 pp apos cpos : Pos} {x : Str} {i : Nat} {rec rec' recT' : Expr → Option C}
theorem Good.blk (G : Good g cf n kc X W) (s : Shared) (H : Hp) (scope : Scope) (C : Addr) (cl : List (Str × Addr)) (fp : List Addr) (uq : ∀ y ∈ scope.names, scope.names.lookup y.1 = some y.2) : Good g cf n (kc.at scope) (X.blk s H scope (compEnvC scope cl C X.env) fp) W0 where
  nm := G.nm
  nd := G.nd
  sc := by
    show relabel scope X.env = reS scope kc.sc
    rw [← G.sc]
    rfl
  calm := G.calm
  fn := fun x hm h => by
    have hm : x ∈ (ownOf kc.N scope.names).map (·.1) := by simpa [KC.may, KC.at] using hm
    obtain ⟨k, h1, h2⟩ := own_mem hm
    have h3 := uq _ h1
    cases k with
    | «local» => exact .inr (lookup_relabel_local (env := X.env) h3)
    | cell =>
      refine .inl ?_
      show (scope.names.lookup x == some .cell) = true
      have h4 : scope.names.lookup x = some .cell := h3
      rw [h4]; rfl
    | _ => cases h2
  K := G.K
  room := G.room
  gu := G.gu
  tk := takes0
  cfok := G.cfok
  fs := G.fs
  cs := G.cs
  bs := G.bs
theorem cComp_ok (G : Good g cf n kc X W) (R : ∀ e c, rec e = some c → PE X e (tE g W cf mk c)) {gens : List Comprehension} {scope : Scope} {cd : C}
    (R' : ∀ (X' : Cx) (W' : WX), Good g cf n (kc.at scope) X' W' → (∀ e c, rec' e = some c → PE X' e (tE g W' cf mk c)) ∧ ∀ e c, recT' e = some c → PT X' e (tT g W' cf mk c)) (h : cComp kc rec rec' recT' elt gens scope = some cd) :
    PE X (.ListComp elt gens scope pos) (tE g W cf mk cd) ∧ ∀ (i : Nat) (y : Str) (py spos : Pos), X.N[i]? = some y → X.env.scope.names.lookup y = some .local → swapsWith (.ListComp elt gens scope pos) (some (.Name y py)) spos.line X.env = pure true →
      PS X (.Assign [.Name y py] (.ListComp elt gens scope pos) spos) (tAsg (tE g W cf mk cd) (gName i)) := by
  unfold cComp at h
  split at h
  · rename_i tg it ifs
    replace h := ite_elim h; rcases h with ⟨hb, h⟩ | ⟨_, h⟩
    · simp only [Bool.and_eq_true] at hb
      obtain ⟨ct, h1, h⟩ := Option.bind_eq_some_iff.mp h
      obtain ⟨ci, h2, h⟩ := Option.bind_eq_some_iff.mp h
      obtain ⟨cc, h3, h⟩ := Option.bind_eq_some_iff.mp h
      obtain ⟨ce, h4, h⟩ := Option.bind_eq_some_iff.mp h
      replace h := ite_elim h; rcases h with ⟨ho, h⟩ | ⟨_, h⟩
      · cases h
        simp only [List.all_eq_true, decide_eq_true_eq] at ho
        have ok : BlkOk X.N X.env.scope scope (ownOf kc.N scope.names) := by rw [G.nm, G.sc]; exact blkOk_by hb.1
        have hg : ∀ (s : Shared) (H : Hp) (C : Addr) (cl : List (Str × Addr)) (fp : List Addr), PG (X.blk s H scope (compEnvC scope cl C X.env) fp) tg (tG g ct) := fun s H C cl fp => (cTg_ok (G.blk s H scope C cl fp ok.uniq) 50 h1).1
        have ht : ∀ (s : Shared) (H : Hp) (C : Addr) (cl : List (Str × Addr)) (fp : List Addr), PTs (X.blk s H scope (compEnvC scope cl C X.env) fp) ifs (tT g W0 cf mk cc) := fun s H C cl fp => by
          unfold cIfs at h3
          split at h3
          · cases h3; exact ts_nil
          · exact ts_one ((R' _ _ (G.blk s H scope C cl fp ok.uniq)).2 _ _ h3)
          · cases h3
        have he : ∀ (s : Shared) (H : Hp) (C : Addr) (cl : List (Str × Addr)) (fp : List Addr), PE (X.blk s H scope (compEnvC scope cl C X.env) fp) elt (tE g W0 cf mk ce) := fun s H C cl fp => (R' _ _ (G.blk s H scope C cl fp ok.uniq)).1 _ _ h4
        exact ⟨e_comp G.calm G.nd (cIt_ok G R h2) ok hg ht he (noSet_f hb.2) ho, fun i y py spos hy hyl hsw => s_setLc G.calm G.nd hy hyl hsw (cIt_ok G R h2) ok hg ht he (noSet_f hb.2) ho⟩
      · cases h
    · cases h
  · cases h
end
/-- the code of an expression; of a test (true) -/
def cM : Nat → KC → Bool → Expr → Option C
  | 0, _, _, _ => none
  | n + 1, kc, true, e => match e with
    | .UnaryOp .Not a _ => (cM n kc true a).bind fun c => if c.isBrw then none else some (.prim .not (.cons c .nil))
    | .BoolOp op vs _ => cBool op (cM n kc true) vs
    | .Compare a ops bs _ => cCmp kc (cM n kc false) a ops bs
    | .IfExp _ _ _ _ => none
    | .UnaryOp _ _ _ => none
    | e => cM n kc false e
  | n + 1, kc, false, e => match e with
    | .Constant k _ _ => cConst k
    | .Name x _ => cName kc x
    | .BinOp a op b _ => (opP op).bind fun p => (cArg kc (cM n kc false) a).bind fun ca => (cArg kc (cM n kc false) b).map fun cb => .prim p (.cons ca (.cons cb .nil))
    | .UnaryOp .USub a _ => (cArg kc (cM n kc false) a).map fun ca => .prim .neg (.cons ca .nil)
    | .UnaryOp .Not a _ => (cM n kc false a).bind fun c => if c.isBrw then none else some (.prim .not (.cons c .nil))
    | .BoolOp op vs _ => cBool op (cM n kc false) vs
    | .Compare a ops bs _ => cCmp kc (cM n kc false) a ops bs
    | .IfExp t a b _ => (cM n kc true t).bind fun ct => (cM n kc false a).bind fun ca => (cM n kc false b).map fun cb => .ite ct ca cb
    | .Tuple es _ _ => (cVs (cM n kc false) es).map .tup
    | .List es _ => (cVs (cM n kc false) es).map .lst
    | .Dict ks vs _ => cDict (cM n kc false) ks vs
    | .Subscript a b _ => cSub kc (cM n kc false) a b
    | .Call f args kws pos => cCall kc (cM n kc false) pos f args kws
    | .ListComp elt gens scope _ => cComp kc (cM n kc false) (cM n (kc.at scope) false) (cM n (kc.at scope) true) elt gens scope
    | _ => none
theorem cM_ok {g : Gx} {cf mk : CF} {k : Nat} : ∀ (n : Nat) (kc : KC) (X : Cx) (W : WX), Good g cf k kc X W → (∀ e c, cM n kc false e = some c → PE X e (tE g W cf mk c)) ∧ ∀ e c, cM n kc true e = some c → PT X e (tT g W cf mk c)
  | 0, kc, X, W, G => ⟨fun e c h => (by cases h), fun e c h => (by cases h)⟩
  | n + 1, kc, X, W, G => by
    have ih := cM_ok (mk := mk) n kc X W G
    have R := ih.1
    have RT := ih.2
    constructor
    · intro e c h
      unfold cM at h
      split at h
      · exact cConst_ok h
      · exact cName_ok G h
      · obtain ⟨p, h1, h⟩ := Option.bind_eq_some_iff.mp h
        obtain ⟨ca, h2, h⟩ := Option.bind_eq_some_iff.mp h
        obtain ⟨cb, h3, rfl⟩ := Option.map_eq_some_iff.mp h
        exact e_bin (opP_ok G h1) (cArg_ok G R h2) (cArg_ok G R h3)
      · obtain ⟨ca, h2, rfl⟩ := Option.map_eq_some_iff.mp h
        exact e_un r_neg (cArg_ok G R h2)
      · obtain ⟨ca, h2, h⟩ := Option.bind_eq_some_iff.mp h
        replace h := ite_elim h; rcases h with ⟨_, h⟩ | ⟨hb, h⟩
        · cases h
        · cases h; exact e_not (R _ _ h2) (by simpa using hb)
      · exact cBool_ok R h
      · exact (cCmp_ok G R h).1
      · obtain ⟨ct, h1, h⟩ := Option.bind_eq_some_iff.mp h
        obtain ⟨ca, h2, h⟩ := Option.bind_eq_some_iff.mp h
        obtain ⟨cb, h3, rfl⟩ := Option.map_eq_some_iff.mp h
        exact e_ite (RT _ _ h1) (R _ _ h2) (R _ _ h3)
      · obtain ⟨ca, h2, rfl⟩ := Option.map_eq_some_iff.mp h
        exact e_tup (cVs_ok R h2).1
      · obtain ⟨ca, h2, rfl⟩ := Option.map_eq_some_iff.mp h
        exact e_lst (cVs_ok R h2).1
      · exact cDict_ok R h
      · exact cSub_ok G R h
      · exact cCall_ok G R h
      · exact (cComp_ok G R (fun X' W' G' => cM_ok n _ X' W' G') h).1
      · cases h
    · intro e c h
      have low : ∀ e, cM n kc false e = some c → (∀ whole, PySem.isTrue e X.env whole = do
          let v ← whole
          standAt e.pos
          holding [v] (truthy v)) → PT X e (tT g W cf mk c) := fun e h hw => t_val (R _ _ h) hw
      unfold cM at h
      split at h
      · obtain ⟨ca, h2, h⟩ := Option.bind_eq_some_iff.mp h
        replace h := ite_elim h; rcases h with ⟨_, h⟩ | ⟨hb, h⟩
        · cases h
        · cases h; exact t_not (RT _ _ h2) (by simpa using hb)
      · exact (cBool_okT RT h).pt
      · exact (cCmp_ok G R h).2
      · cases h
      · cases h
      · rename_i h1 h2 h3 h4 h5
        refine low _ h fun whole => ?_
        cases e <;> first | rfl | (exfalso; first | exact h1 _ _ rfl | exact h2 _ _ _ rfl | exact h3 _ _ _ _ rfl | exact h4 _ _ _ _ rfl | exact h5 _ _ _ rfl)
end PV
end

section
set_option Elab.async false
set_option linter.all false
set_option maxRecDepth 100000
set_option maxHeartbeats 1000000
/-! PV23: from the text to its code: statements. -/
namespace PV
open PySem L2

/-- the names that a swapped store stores to, as the model tells them -/
def swN (sc : Scope) (ts vs : List Expr) : Option (Option (List Str)) :=
  let line := (ts.head?.map (·.pos.line)).getD 0
  let names := ts.filterMap fun
    | .Name id pos => if sc.names.lookup id == some .local && pos.line == line then some id else none
    | _ => none
  if !(ts.length == 2 || ts.length == 3) || vs.length != ts.length then some none else
  if (vs.any fun | .Starred .. => true | _ => false) then some none else
  if names.length != ts.length || names.eraseDups.length != names.length then some none else
  if vs.all (foldedForSure 8) then some none else
  if vs.all (constantsAlone 8) then none else some (some names)
def isFnK : ScopeKind → Bool
  | .function => true
  | _ => false
theorem sw_ok {X : Cx} {ts vs : List Expr} {kt k2 : Nat} {pt p2 : Pos} {r : Option (List Str)} (hk : isFnK X.env.scope.kind = true) (h : swN X.env.scope ts vs = some r) : swappedStores [.Tuple ts kt pt] (.Tuple vs k2 p2) X.env = pure r := by
  have hb : X.env.blockKind = .function := by
    unfold PySem.Env.blockKind
    have e : X.env.scope.kind = .function := by
      cases q : X.env.scope.kind <;> first | rfl | (rw [q] at hk; cases hk)
    rw [e]; rfl
  unfold swN at h
  unfold swappedStores
  simp only [hb] at h ⊢
  replace h := ite_elim h; rcases h with ⟨c, h⟩ | ⟨c1, h⟩
  · cases h
    rw [if_pos (by simpa using c)]
  rw [if_neg (by simpa using c1)]
  replace h := ite_elim h; rcases h with ⟨c, h⟩ | ⟨c2, h⟩
  · cases h
    exact if_pos c
  refine (if_neg c2).trans ?_
  replace h := ite_elim h; rcases h with ⟨c, h⟩ | ⟨c3, h⟩
  · cases h
    exact if_pos c
  refine (if_neg c3).trans ?_
  replace h := ite_elim h; rcases h with ⟨c, h⟩ | ⟨c4, h⟩
  · cases h
    exact if_pos c
  refine (if_neg c4).trans ?_
  replace h := ite_elim h; rcases h with ⟨c, h⟩ | ⟨c5, h⟩
  · cases h
  cases h
  refine (if_neg c5).trans ?_
  rfl
def noLC : Expr → Bool
  | .ListComp _ _ _ _ => false
  | .SetComp _ _ _ _ => false
  | .DictComp _ _ _ _ _ => false
  | _ => true
theorem noLC_ok {e : Expr} {t : Option Expr} {l : Nat} {env : PySem.Env} (h : noLC e = true) : swapsWith e t l env = pure false := by cases e <;> first | rfl | cases h
def isNm : Expr → Bool
  | .Name _ _ => true
  | _ => false
theorem sw_lc {elt : Expr} {gs : List Comprehension} {scope : Scope} {pos py : Pos} {y : Str} {l : Nat} {env : PySem.Env} (hk : isFnK env.scope.kind = true)
    (h : (isLocal (env.scope.names.lookup y) && (py.line == pos.line) && !(scope.names.any fun (n, k) => n == y && (k == .local || k == .cell))) = false) : swapsWith (.ListComp elt gs scope pos) (some (.Name y py)) l env = pure false := by
  have hb : env.blockKind = .function := by
    unfold PySem.Env.blockKind
    have e : env.scope.kind = .function := by
      cases q : env.scope.kind <;> first | rfl | (rw [q] at hk; cases hk)
    rw [e]; rfl
  have el : (env.kindOf y == some .local) = isLocal (env.scope.names.lookup y) := by
    show (env.scope.names.lookup y == some .local) = _
    cases env.scope.names.lookup y with
    | none => rfl
    | some k => cases k <;> rfl
  unfold swapsWith
  simp only [hb, el, Expr.pos]
  have h2 : (ScopeKind.function == ScopeKind.function && isLocal (env.scope.names.lookup y) && (py.line == pos.line) && !(scope.names.any fun (n, k) => n == y && (k == .local || k == .cell))) = false := by
    simpa using h
  first
    | rw [h2]
    | (show (pure _ : Sem Bool) = pure false; exact congrArg pure h2)
theorem sole_ok {e tg : Expr} {l : Nat} {env : PySem.Env} (h : isNm tg = false) : swapsWithSole [tg] e l env = pure false := by
  cases tg <;> first | (cases h; done) | (cases e <;> rfl)
def isTupX : Expr → Option (List Expr)
  | .Tuple vs _ _ => some vs
  | _ => none
/-- fuel for expressions -/
def eF : Nat := 60
def cExprS (kc : KC) (e : Expr) : Option S := match e with
  | .Call (.Attribute o m apos) [a] [] cpos => if (decide (m = "append") || decide (m = "extend")) && (apos.endLine == cpos.line) && !isStar a && !isCall o then (slotOf kc o).bind fun i => (cM eF kc false a).map fun c => if m = "append" then .append i [] c else .extend i [] c else (cM eF kc false e).map .expr
  | e => if noLC e then (cM eF kc false e).map .expr else none
def inOk (ks : List Nat) (i : Nat) : Bool := !decide (i ∈ ks)
/-- (a, b, ..) = e -/
def cAsgT (kc : KC) (ks : List Nat) (ts : List Expr) (e : Expr) : Option S :=
  let sw : Option (Option (List Str)) := match isTupX e with
    | some vs => swN kc.sc ts vs
    | none => some none
  match sw with
  | none => none
  | some none => match ts, isTupX e with
    | [.Name x _, .Name y _], some [a, b] => (kc.slotL x).bind fun i => (kc.slotL y).bind fun j => if inOk ks i && inOk ks j && !isStar a && !isStar b then
        (cM eF kc false a).bind fun ca => (cM eF kc false b).map fun cb => .par i j ca cb else none
    | [.Subscript o ix _, .Name y _], _ => if isSlice ix then none else (slotOf kc o).bind fun i => (kc.slotL y).bind fun j => if inOk ks j then (cM eF kc false ix).bind fun ci => (cM eF kc false e).map fun ce => .setIxT i ci j ce else none
    | ts, _ => (cTgs kc ks 50 ts).bind fun ct => (cM eF kc false e).map fun ce => .asgT (.tgTup ct) ce
  | some (some names) => match ts, isTupX e with
    | [.Name x _, .Name y _], some [a, b] => (kc.slotL x).bind fun i => (kc.slotL y).bind fun j => if decide (names = [x, y]) && inOk ks i && inOk ks j && decide (i ≠ j) && isLocal (kc.sc.names.lookup x) && isLocal (kc.sc.names.lookup y) && !isStar a && !isStar b then
        (cM eF kc false a).bind fun ca => (cM eF kc false b).map fun cb => .par i j ca cb else none
    | [.Name x _, .Name y _, .Name z _], some [a, b, c] => (kc.slotL x).bind fun i => (kc.slotL y).bind fun j => (kc.slotL z).bind fun l => if decide (names = [x, y, z]) && inOk ks i && inOk ks j && inOk ks l && decide (i ≠ j) && decide (i ≠ l) && decide (j ≠ l) && isLocal (kc.sc.names.lookup x) && isLocal (kc.sc.names.lookup y) && isLocal (kc.sc.names.lookup z) && !isStar a && !isStar b && !isStar c then
        (cM eF kc false a).bind fun ca => (cM eF kc false b).bind fun cb => (cM eF kc false c).map fun cc => .par3 i j l ca cb cc else none
    | _, _ => none
def cAsgN (kc : KC) (ks : List Nat) (x : Str) (py : Pos) (e : Expr) : Option S := (kc.slotL x).bind fun i => if inOk ks i then (match e with
  | .ListComp _ _ scope pos => if isLocal (kc.sc.names.lookup x) && (py.line == pos.line) && !(scope.names.any fun (n, k) => n == x && (k == .local || k == .cell)) then (cM eF kc false e).map (.asg i ·) else (cM eF kc false e).map (.asg i ·)
  | e => if noLC e then (cM eF kc false e).map (.asg i ·) else none) else none
def cAsg (kc : KC) (ks : List Nat) (tg e : Expr) : Option S := match tg with
  | .Name x py => cAsgN kc ks x py e
  | .Tuple ts _ _ => cAsgT kc ks ts e
  | .Subscript o ix _ => if isSlice ix then none else (slotOf kc o).bind fun i => (cM eF kc false ix).bind fun ci => (cM eF kc false e).map fun ce => .setIx i [] ci ce
  | _ => none
section
variable {X : Cx} {g : Gx} {W : WX} {cf mk : CF} {n : Nat} {kc : KC} {ks : List Nat} {e o tg : Expr} {pos : Pos} {x : Str} {i : Nat} {cd : S}
theorem inOk_ok (h : inOk ks i = true) : i ∉ ks := by simpa [inOk] using h
theorem cExprS_ok (G : Good g cf n kc X W) (h : cExprS kc e = some cd) : PS X (.Expr e pos) (tS g W cf mk ks cd) := by
  have R := (cM_ok (mk := mk) eF kc X W G).1
  unfold cExprS at h
  split at h
  · replace h := ite_elim h; rcases h with ⟨c, h⟩ | ⟨_, h⟩
    · simp only [Bool.and_eq_true, Bool.or_eq_true, decide_eq_true_eq, Bool.not_eq_true'] at c
      obtain ⟨⟨⟨c1, c2⟩, c3⟩, c4⟩ := c
      obtain ⟨i, h1, h⟩ := Option.bind_eq_some_iff.mp h
      obtain ⟨ca, h2, rfl⟩ := Option.map_eq_some_iff.mp h
      rcases c1 with rfl | rfl
      · rw [if_pos rfl]
        exact s_append (slotOf_ok G h1).1 (R _ _ h2) c3 (base_ok c4) c2
      · rw [if_neg (by decide)]
        exact s_extend (slotOf_ok G h1).1 (R _ _ h2) c3 (base_ok c4) c2
    · obtain ⟨ca, h2, rfl⟩ := Option.map_eq_some_iff.mp h
      exact s_expr (R _ _ h2) rfl
  · replace h := ite_elim h; rcases h with ⟨c, h⟩ | ⟨_, h⟩
    · obtain ⟨ca, h2, rfl⟩ := Option.map_eq_some_iff.mp h
      exact s_expr (R _ _ h2) (noLC_ok c)
    · cases h
theorem cAsgN_ok {py : Pos} (G : Good g cf n kc X W) (hk : isFnK kc.sc.kind = true) (h : cAsgN kc ks x py e = some cd) : PS X (.Assign [.Name x py] e pos) (tS g W cf mk ks cd) := by
  have R := (cM_ok (mk := mk) eF kc X W G).1
  unfold cAsgN at h
  obtain ⟨i, h1, h⟩ := Option.bind_eq_some_iff.mp h
  obtain ⟨q1, q2, q3⟩ := G.slotL h1
  replace h := ite_elim h; rcases h with ⟨c, h⟩ | ⟨_, h⟩
  · have ki := inOk_ok c
    split at h
    · rename_i elt gens scope lp _
      replace h := ite_elim h; rcases h with ⟨c, h⟩ | ⟨_, h⟩
      · simp only [Bool.and_eq_true, Bool.not_eq_true'] at c
        obtain ⟨⟨c1, c2⟩, c3⟩ := c
        obtain ⟨ca, h2, rfl⟩ := Option.map_eq_some_iff.mp h
        have hkd : X.env.scope.kind = .function := by
          rw [G.sc]
          cases q : kc.sc.kind <;> first | rfl | (rw [q] at hk; cases hk)
        have hl := G.lcl c1
        have h3 : cComp kc (cM 59 kc false) (cM 59 (kc.at scope) false) (cM 59 (kc.at scope) true) elt gens scope = some ca := h2
        have R59 := (cM_ok (mk := mk) 59 kc X W G).1
        exact s_asgLc ((cComp_ok (pos := lp) G R59 (fun X' W' G' => cM_ok 59 _ X' W' G') h3).2 i x py pos q1 hl (sw_true hkd hl c2 c3)) ki
      · rename_i c
        obtain ⟨ca, h2, rfl⟩ := Option.map_eq_some_iff.mp h
        refine s_asg G.nd q1 q2 q3 (R _ _ h2) (sw_lc (by rw [G.sc]; exact hk) ?_) ki
        rw [G.sc]
        exact Bool.eq_false_iff.mpr c
    · replace h := ite_elim h; rcases h with ⟨c, h⟩ | ⟨_, h⟩
      · obtain ⟨ca, h2, rfl⟩ := Option.map_eq_some_iff.mp h
        exact s_asg G.nd q1 q2 q3 (R _ _ h2) (noLC_ok c) ki
      · cases h
  · cases h
theorem cAsgT_ok {ts : List Expr} {kt : Nat} {pt : Pos} (G : Good g cf n kc X W) (hk : isFnK kc.sc.kind = true) (h : cAsgT kc ks ts e = some cd) : PS X (.Assign [.Tuple ts kt pt] e pos) (tS g W cf mk ks cd) := by
  have R := (cM_ok (mk := mk) eF kc X W G).1
  have hsw : ∀ r, (match isTupX e with
    | some vs => swN kc.sc ts vs
    | none => some none) = some r → swappedStores [.Tuple ts kt pt] e X.env = pure r := fun r hr => by
    cases e with
    | Tuple vs k2 p2 =>
      simp only [isTupX] at hr
      exact sw_ok (by rw [G.sc]; exact hk) (by rw [G.sc]; exact hr)
    | _ => (simp only [isTupX, Option.some.injEq] at hr; subst hr; rfl)
  unfold cAsgT at h
  simp only at h
  split at h
  · cases h
  · rename_i hs
    have sw := hsw _ hs
    split at h
    · rename_i x px y py a b he
      obtain ⟨i, h1, h⟩ := Option.bind_eq_some_iff.mp h
      obtain ⟨j, h2, h⟩ := Option.bind_eq_some_iff.mp h
      replace h := ite_elim h; rcases h with ⟨c, h⟩ | ⟨_, h⟩
      · simp only [Bool.and_eq_true, Bool.not_eq_true'] at c
        obtain ⟨⟨⟨c2, c3⟩, c7⟩, c8⟩ := c
        obtain ⟨ca, h3, h⟩ := Option.bind_eq_some_iff.mp h
        obtain ⟨cb, h4, rfl⟩ := Option.map_eq_some_iff.mp h
        cases e with
        | Tuple vs k2 p2 =>
          simp only [isTupX, Option.some.injEq] at he
          subst he
          exact s_parU G.calm G.nd (G.slotL h1).1 (G.slotL h2).1 (G.slotL h1).2.1 (G.slotL h1).2.2 (G.slotL h2).2.1 (G.slotL h2).2.2 (R _ _ h3) (R _ _ h4) c7 c8 sw (sole_ok rfl) (inOk_ok c2) (inOk_ok c3)
        | _ => cases he
      · cases h
    · rename_i o ix tp y py
      replace h := ite_elim h; rcases h with ⟨c, h⟩ | ⟨hsl, h⟩
      · cases h
      obtain ⟨i, h1, h⟩ := Option.bind_eq_some_iff.mp h
      obtain ⟨j, h2, h⟩ := Option.bind_eq_some_iff.mp h
      replace h := ite_elim h; rcases h with ⟨c, h⟩ | ⟨_, h⟩
      · obtain ⟨ci, h3, h⟩ := Option.bind_eq_some_iff.mp h
        obtain ⟨ce, h4, rfl⟩ := Option.map_eq_some_iff.mp h
        obtain ⟨q1, q2, q3⟩ := G.slotL h2
        exact s_setIxT G.K G.calm G.hu (slotOf_ok G h1).1 (R _ _ h3) (R _ _ h4) (by simpa using hsl) G.nd q1 q2 q3 (inOk_ok c) (sole_ok rfl) sw
      · cases h
    · obtain ⟨ct, h1, h⟩ := Option.bind_eq_some_iff.mp h
      obtain ⟨ce, h2, rfl⟩ := Option.map_eq_some_iff.mp h
      obtain ⟨q1, q2, q3, q4⟩ := cTgs_ok G 50 h1
      have ea := each_of X.env q3
      exact s_asgT (R _ _ h2) (g_tup G.K G.calm q1 rfl (by rw [ea, List.length_map, q4]) (by rw [ea]; simp [List.findIdx?_eq_none_iff])) (sole_ok rfl) sw rfl q2
  · rename_i names hs
    have sw := hsw _ hs
    split at h
    · rename_i x px y py a b he
      obtain ⟨i, h1, h⟩ := Option.bind_eq_some_iff.mp h
      obtain ⟨j, h2, h⟩ := Option.bind_eq_some_iff.mp h
      replace h := ite_elim h; rcases h with ⟨c, h⟩ | ⟨_, h⟩
      · simp only [Bool.and_eq_true, decide_eq_true_eq, Bool.not_eq_true'] at c
        obtain ⟨⟨⟨⟨⟨⟨⟨c1, c2⟩, c3⟩, c4⟩, c5⟩, c6⟩, c7⟩, c8⟩ := c
        obtain ⟨ca, h3, h⟩ := Option.bind_eq_some_iff.mp h
        obtain ⟨cb, h4, rfl⟩ := Option.map_eq_some_iff.mp h
        cases e with
        | Tuple vs k2 p2 =>
          simp only [isTupX, Option.some.injEq] at he
          subst he
          subst c1
          exact s_par G.calm G.nd (G.slotL h1).1 (G.slotL h2).1 c4 (G.lcl c5) (G.lcl c6) (R _ _ h3) (R _ _ h4) c7 c8 sw (inOk_ok c2) (inOk_ok c3)
        | _ => cases he
      · cases h
    · rename_i x px y py z pz a b c' he
      obtain ⟨i, h1, h⟩ := Option.bind_eq_some_iff.mp h
      obtain ⟨j, h2, h⟩ := Option.bind_eq_some_iff.mp h
      obtain ⟨l, h3, h⟩ := Option.bind_eq_some_iff.mp h
      replace h := ite_elim h; rcases h with ⟨c, h⟩ | ⟨_, h⟩
      · simp only [Bool.and_eq_true, decide_eq_true_eq, Bool.not_eq_true'] at c
        obtain ⟨⟨⟨⟨⟨⟨⟨⟨⟨⟨⟨⟨c1, c2⟩, c3⟩, c4⟩, c5⟩, c6⟩, c7⟩, c8⟩, c9⟩, c10⟩, c11⟩, c12⟩, c13⟩ := c
        obtain ⟨ca, h4, h⟩ := Option.bind_eq_some_iff.mp h
        obtain ⟨cb, h5, h⟩ := Option.bind_eq_some_iff.mp h
        obtain ⟨cc, h6, rfl⟩ := Option.map_eq_some_iff.mp h
        cases e with
        | Tuple vs k2 p2 =>
          simp only [isTupX, Option.some.injEq] at he
          subst he
          subst c1
          exact s_par3 G.calm G.nd (G.slotL h1).1 (G.slotL h2).1 (G.slotL h3).1 c5 c6 c7 (G.lcl c8) (G.lcl c9) (G.lcl c10) (R _ _ h4) (R _ _ h5) (R _ _ h6) c11 c12 c13 sw (inOk_ok c2) (inOk_ok c3) (inOk_ok c4)
        | _ => cases he
      · cases h
    · cases h
theorem cAsg_ok (G : Good g cf n kc X W) (hk : isFnK kc.sc.kind = true) (h : cAsg kc ks tg e = some cd) : PS X (.Assign [tg] e pos) (tS g W cf mk ks cd) := by
  unfold cAsg at h
  split at h
  · exact cAsgN_ok G hk h
  · exact cAsgT_ok G hk h
  · have R := (cM_ok (mk := mk) eF kc X W G).1
    replace h := ite_elim h; rcases h with ⟨c, h⟩ | ⟨hsl, h⟩
    · cases h
    obtain ⟨i, h1, h⟩ := Option.bind_eq_some_iff.mp h
    obtain ⟨ci, h3, h⟩ := Option.bind_eq_some_iff.mp h
    obtain ⟨ce, h4, rfl⟩ := Option.map_eq_some_iff.mp h
    exact s_setIx G.hu (slotOf_ok G h1).1 (R _ _ h3) (R _ _ h4) (by simpa using hsl) (sole_ok rfl) (by cases e <;> rfl)
  · cases h
end
mutual
def cSt (kc : KC) (ks : List Nat) : Nat → Stmt → Option S
  | 0, _ => none
  | m + 1, st => match st with
    | .Pass _ => some .skip
    | .Break _ => some .brk
    | .Continue _ => some .cont
    | .Return none _ => some .retN
    | .Return (some e) _ => (cM eF kc false e).map .ret
    | .Expr e _ => cExprS kc e
    | .Assign [tg] e _ => cAsg kc ks tg e
    | .If c a b _ => (cM eF kc true c).bind fun cc => (cSs kc ks m a).bind fun sa => (cSs kc ks m b).map fun sb => .ife cc sa sb
    | .While c b [] _ => (cM eF kc true c).bind fun cc => (cSs kc ks m b).map fun sb => .whil cc sb
    | .For tg it b [] _ => if noSet it then (cTg kc ks 50 tg).bind fun ct => (cIt kc (cM eF kc false) tg it).bind fun ci => (cSs kc ks m b).map fun sb => .forIn ct ci sb else none
    | _ => none
def cSs (kc : KC) (ks : List Nat) : Nat → List Stmt → Option S
  | 0, _ => none
  | m + 1, sts => match sts with
    | [] => some .skip
    | st :: r => (cSt kc ks m st).bind fun s1 => (cSs kc ks m r).map fun s2 => .seq s1 s2
end
theorem cSt_ok {X : Cx} {g : Gx} {W : WX} {cf mk : CF} {n : Nat} {kc : KC} {ks : List Nat} (G : Good g cf n kc X W) (hk : isFnK kc.sc.kind = true) (hp : PassesOwn (model X.prog X.w) X.A X.env X.xe) : ∀ (m : Nat),
    (∀ st cd, cSt kc ks m st = some cd → PS X st (tS g W cf mk ks cd)) ∧ ∀ sts cd, cSs kc ks m sts = some cd → PSs X sts (tS g W cf mk ks cd)
  | 0 => ⟨fun st cd h => (by simp [cSt] at h), fun st cd h => (by simp [cSs] at h)⟩
  | m + 1 => by
    have ih := cSt_ok (mk := mk) (ks := ks) G hk hp m
    have R := (cM_ok (mk := mk) eF kc X W G).1
    have RT := (cM_ok (mk := mk) eF kc X W G).2
    constructor
    · intro st cd h
      simp only [cSt] at h
      split at h
      · cases h; exact s_pass
      · cases h; exact s_break
      · cases h; exact s_cont
      · cases h; exact s_retN
      · obtain ⟨c, h1, rfl⟩ := Option.map_eq_some_iff.mp h
        exact s_ret (R _ _ h1)
      · exact cExprS_ok G h
      · exact cAsg_ok G hk h
      · obtain ⟨cc, h1, h⟩ := Option.bind_eq_some_iff.mp h
        obtain ⟨sa, h2, h⟩ := Option.bind_eq_some_iff.mp h
        obtain ⟨sb, h3, rfl⟩ := Option.map_eq_some_iff.mp h
        exact s_if (RT _ _ h1) (ih.2 _ _ h2) (ih.2 _ _ h3)
      · obtain ⟨cc, h1, h⟩ := Option.bind_eq_some_iff.mp h
        obtain ⟨sb, h3, rfl⟩ := Option.map_eq_some_iff.mp h
        exact s_while hp (RT _ _ h1) (ih.2 _ _ h3)
      · replace h := ite_elim h; rcases h with ⟨c, h⟩ | ⟨_, h⟩
        · obtain ⟨ct, h1, h⟩ := Option.bind_eq_some_iff.mp h
          obtain ⟨ci, h2, h⟩ := Option.bind_eq_some_iff.mp h
          obtain ⟨sb, h3, rfl⟩ := Option.map_eq_some_iff.mp h
          obtain ⟨q1, q2, _⟩ := cTg_ok G 50 h1
          exact s_for hp G.calm (cIt_ok G R h2) q1 (ih.2 _ _ h3) (noSet_f c) q2
        · cases h
      · cases h
    · intro sts cd h
      simp only [cSs] at h
      split at h
      · cases h; exact s_skip
      · obtain ⟨s1, h1, h⟩ := Option.bind_eq_some_iff.mp h
        obtain ⟨s2, h2, rfl⟩ := Option.map_eq_some_iff.mp h
        exact s_seq (ih.1 _ _ h1) (ih.2 _ _ h2)
end PV
end

section
set_option Elab.async false
set_option linter.all false
set_option maxRecDepth 100000
set_option maxHeartbeats 1000000
/-! PV24: how a call binds. -/
namespace PV
open PySem L2

theorem zip_lookup {α : Type} : ∀ {given : List Str} {vals : List α} {j : Nat} {x : Str} {v : α}, given.Nodup → given[j]? = some x → vals[j]? = some v → (given.zip vals).lookup x = some v
  | [], _, _, _, _, _, h, _ => by simp at h
  | _ :: _, [], _, _, _, _, _, h => by simp at h
  | y :: r, w :: s, 0, x, v, _, h1, h2 => by
    simp at h1 h2; subst h1; subst h2
    simp [List.lookup_cons]
  | y :: r, w :: s, j + 1, x, v, nd, h1, h2 => by
    have nd' := List.nodup_cons.mp nd
    have h1' : r[j]? = some x := by simpa using h1
    have hne : (x == y) = false := by
      rw [beq_eq_false_iff_ne]
      rintro rfl
      exact nd'.1 (List.mem_of_getElem? h1')
    simp only [List.zip_cons_cons, List.lookup_cons, hne]
    exact zip_lookup nd'.2 h1' (by simpa using h2)
theorem perm_binds {α : Type} {given : List Str} {vals : List α} (nd : given.Nodup) : ∀ {p : List Nat} {ps : List Str} {args : List α}, permL given p = some ps → permL vals p = some args →
    (ps.filterMap fun n => ((given.zip vals).lookup n).map (n, ·)) = ps.zip args ∧ ∀ n ∈ ps, ((given.zip vals).lookup n).isNone = false
  | [], _, _, h1, h2 => by cases h1; cases h2; exact ⟨rfl, fun n h => by simp at h⟩
  | k :: r, ps, args, h1, h2 => by
    simp only [permL] at h1 h2
    obtain ⟨x, e1, h1⟩ := Option.bind_eq_some_iff.mp h1
    obtain ⟨xs, e2, rfl⟩ := Option.map_eq_some_iff.mp h1
    obtain ⟨v, e3, h2⟩ := Option.bind_eq_some_iff.mp h2
    obtain ⟨vs, e4, rfl⟩ := Option.map_eq_some_iff.mp h2
    obtain ⟨q1, q2⟩ := perm_binds nd e2 e4
    have l := zip_lookup nd e1 e3
    refine ⟨by simp only [List.filterMap_cons, l, Option.map_some, List.zip_cons_cons, q1], fun n hn => ?_⟩
    rcases List.mem_cons.mp hn with rfl | hn
    · rw [l]; rfl
    · exact q2 n hn
theorem forIn_kw {ps : List Str} {β : Type} {f : Str × Value → List (Str × Value) × β → Sem (ForInStep (List (Str × Value) × β))} (hf : ∀ k v sl ex, k ∈ ps → sl.lookup k = none → f (k, v) (sl, ex) = pure (.yield (sl ++ [(k, v)], ex))) :
    ∀ (names : List Str) (ws : List Value) (sl : List (Str × Value)) (ex : β), (∀ k ∈ names, k ∈ ps) → names.Nodup → (∀ k ∈ names, sl.lookup k = none) → (forIn (names.zip ws) (sl, ex) f : Sem _) = pure (sl ++ names.zip ws, ex)
  | [], ws, sl, ex, _, _, _ => by simp
  | k :: r, [], sl, ex, _, _, _ => by simp
  | k :: r, w :: ws, sl, ex, h1, h2, h3 => by
    have nd := List.nodup_cons.mp h2
    rw [List.zip_cons_cons, List.forIn_cons, hf k w sl ex (h1 k List.mem_cons_self) (h3 k List.mem_cons_self), pure_bind]
    show (forIn (r.zip ws) (sl ++ [(k, w)], ex) f : Sem _) = _
    rw [forIn_kw hf r ws _ ex (fun x hx => h1 x (List.mem_cons_of_mem _ hx)) nd.2 fun x hx => ?_]
    · rw [List.append_assoc]; rfl
    · rw [List.lookup_append, h3 x (List.mem_cons_of_mem _ hx)]
      have hne : (x == k) = false := by
        rw [beq_eq_false_iff_ne]
        rintro rfl
        exact nd.1 hx
      simp [List.lookup_cons, hne]
theorem bind_gen {ps names : List Str} {us ws args : List Value} {p : List Nat} {params : Arguments} {body : List Stmt} {scope : Scope} {x qual : Str} {kV doc pm : Value} {an : Option Addr} {cdv ct : Value}
    (h : params.posonlyargs = [] ∧ params.kwonlyargs = [] ∧ params.vararg = none ∧ params.kwarg = none ∧ params.args.map (·.arg) = ps)
    (nd : (ps.take us.length ++ names).Nodup) (hin : ∀ k ∈ names, k ∈ ps) (hp : permL (ps.take us.length ++ names) p = some ps) (hl : us.length + names.length = ps.length) (hw : us.length + ws.length = ps.length) (ha : permL (us ++ ws) p = some args) :
    bindArgs (PySem.W.fnOf x qual params body scope .none kV doc pm an cdv ct) ⟨us, names.zip ws⟩ = pure (ps.zip args) := by
  obtain ⟨h1, h2, h3, h4, h5⟩ := h
  have ndn : names.Nodup := (List.nodup_append.mp nd).2.1
  have ez : ps.zip us = (ps.take us.length).zip us := by
    rw [List.zip_eq_zip_take_min]
    have e : min ps.length us.length = us.length := by omega
    rw [e, List.take_length]
  have es : ps.zip us ++ names.zip ws = (ps.take us.length ++ names).zip (us ++ ws) := by
    rw [ez, List.zip_append (by rw [List.length_take]; omega)]
  obtain ⟨b1, b2⟩ := perm_binds nd hp ha
  unfold bindArgs
  simp only [PySem.W.fnOf, h1, h2, h3, h4, h5, List.map_nil, List.nil_append, List.append_nil]
  rw [forIn_kw (ps := ps) ?hf names ws (ps.zip us) [] hin ndn ?hk]
  case hk =>
    intro k hk
    rw [List.lookup_eq_none_iff]
    intro q hq
    rw [ez] at hq
    have h6 := (List.of_mem_zip (show (q.1, q.2) ∈ (ps.take us.length).zip us from hq)).1
    rw [bne_iff_ne]
    rintro e
    subst e
    exact (List.nodup_append.mp nd).2.2 _ h6 _ hk rfl
  case hf =>
    intro k v sl ex hk hs
    rw [if_pos (by rw [List.contains_iff_mem.mpr hk]; rfl), if_neg (by rw [hs]; decide)]
  rw [pure_bind, es]
  have e1 : decide (us.length > ps.length) = false := by rw [decide_eq_false_iff_not]; omega
  have e2 : (ps.filter fun n => (((ps.take us.length ++ names).zip (us ++ ws)).lookup n).isNone) = [] := by
    rw [List.filter_eq_nil_iff]
    intro n hn
    rw [b2 n hn]
    decide
  rw [show seqItems? Value.none = pure none from rfl, pure_bind]
  simp only [e1, Bool.false_and, Bool.false_eq_true, if_false, Option.getD_none, List.length_nil, List.drop_nil, Nat.sub_zero, List.take_length, e2, List.isEmpty_nil, Bool.not_true, List.drop_length, List.zip_nil_right, List.zip_nil_left, List.forIn_nil, pure_bind, b1]
theorem permL_range {α : Type} (l : List α) : permL l (List.range l.length) = some l := by
  have key : ∀ (n k : Nat), n + k = l.length → permL l (List.range' k n) = some (l.drop k) := by
    intro n
    induction n with
    | zero => intro k h; simp only [List.range'_zero, permL]; rw [List.drop_of_length_le (by omega)]
    | succ n ih =>
      intro k h
      have hk : k < l.length := by omega
      rw [List.range'_succ]
      simp only [permL, List.getElem?_eq_getElem hk, Option.bind_some, ih (k + 1) (by omega), Option.map_some]
      rw [← List.drop_eq_getElem_cons hk]
  have := key l.length 0 (by omega)
  rw [List.range_eq_range']
  simpa using this

/-! ### a program -/
structure FE where
  nm : Str
  qual : Str
  st : Stmt
  ws : List PV.W
  rw : PV.W
  ps : List Str
  N : List Str
  body : S
structure Pg where
  fes : List FE
  cs : List (Str × D)
  bs : List Str
def gfs : Nat → List FE → List GF
  | _, [] => []
  | k, f :: r => ⟨f.nm, k, f.ws, f.rw, f.ps⟩ :: gfs (k + 1) r
theorem gfs_mem : ∀ {l : List FE} {k : Nat} {f : GF}, f ∈ gfs k l → ∃ j fe, l[j]? = some fe ∧ f = ⟨fe.nm, k + j, fe.ws, fe.rw, fe.ps⟩
  | [], _, _, h => by simp [gfs] at h
  | fe :: r, k, f, h => by
    simp only [gfs, List.mem_cons] at h
    rcases h with rfl | h
    · exact ⟨0, fe, by simp, rfl⟩
    · obtain ⟨j, fe', h1, h2⟩ := gfs_mem h
      exact ⟨j + 1, fe', by simpa using h1, by rw [h2]; congr 1; omega⟩
def Pg.tb (pg : Pg) : Tb := ⟨pg.fes.map fun fe => ⟨fe.ws, fe.rw, fe.N.length, fe.body⟩, []⟩
def Pg.kc (pg : Pg) (fe : FE) : KC := { N := fe.N, sc := defScope fe.st, fs := gfs 0 pg.fes, cs := pg.cs, bs := pg.bs }
/-- fuel for statements -/
def sF : Nat := 400
def Pg.code (pg : Pg) (fe : FE) : Option S := cSs (pg.kc fe) (ownIx 0 fe.ws) sF (defBody fe.st)
def plainArgs (a : Arguments) (ps : List Str) : Bool := a.posonlyargs.isEmpty && a.kwonlyargs.isEmpty && a.vararg.isNone && a.kwarg.isNone && decide (a.args.map (·.arg) = ps)
def noFree (l : List (Str × NameKind)) : Bool := l.all fun y => match y.2 with
  | .free => false
  | _ => true
def FE.ok (fe : FE) : Bool := isFnK (defScope fe.st).kind && !(defScope fe.st).isCoroutine && !(defScope fe.st).isGenerator && decide fe.N.Nodup && decide (fe.N.take fe.ps.length = fe.ps) && (fe.ps.all fun x => locK ((defScope fe.st).names.lookup x)) && noFree (defScope fe.st).names && plainArgs (defArgs fe.st) fe.ps && decide (fe.ps.length = fe.ws.length)
theorem FE.scope {fe : FE} (h : fe.ok = true) : FnScope fe.N fe.ps (defScope fe.st) ∧ isFnK (defScope fe.st).kind = true ∧ plainArgs (defArgs fe.st) fe.ps = true ∧ fe.ps.length = fe.ws.length ∧ fe.ps.Nodup := by
  simp only [FE.ok, Bool.and_eq_true, Bool.not_eq_true', decide_eq_true_eq, List.all_eq_true] at h
  obtain ⟨⟨⟨⟨⟨⟨⟨⟨h1, h2⟩, h3⟩, h4⟩, h5⟩, h6⟩, h7⟩, h8⟩, h9⟩ := h
  refine ⟨⟨?_, h2, h3, h4, h5, fun x hx => ?_, fun y hy e => ?_⟩, h1, h8, h9, by rw [← h5]; exact h4.sublist (List.take_sublist _ _)⟩
  · cases q : (defScope fe.st).kind <;> first | rfl | (rw [q] at h1; cases h1)
  · have := h6 x hx
    cases q : (defScope fe.st).names.lookup x with
    | none => rw [q] at this; cases this
    | some k => rw [q] at this; cases k <;> first | exact .inl rfl | exact .inr rfl | cases this
  · have := List.all_eq_true.mp h7 y hy
    rw [e] at this
    cases this
structure Facts (pg : Pg) (g : Gx) (K : PySem.W.Frag) (mg : Str → Option Value) (fd : Nat → FuncData) : Prop where
  hK : K = g.K
  fn : ∀ k fe, pg.fes[k]? = some fe → Fun K fe.nm fe.qual fe.st (g.fa k) (fd k) ∧ mg fe.nm = some (.ref (g.fa k))
  cs : ∀ p ∈ pg.cs, ∃ u v, mg p.1 = some u ∧ RelV v u ∧ ∀ P, Dn g P v p.2
  bs : ∀ x ∈ pg.bs, mg x = none
theorem fd_binds {K : PySem.W.Frag} {fe : FE} {f : Addr} {fd : FuncData} (F : Fun K fe.nm fe.qual fe.st f fd) (h : fe.ok = true) : Binds K fd fe.ps [] ∧
    ∀ (names : List Str) (s : Shared) (us ws args : List Value) (p : List Nat), (fe.ps.take us.length ++ names).Nodup → (∀ k ∈ names, k ∈ fe.ps) → permL (fe.ps.take us.length ++ names) p = some fe.ps → us.length + names.length = fe.ps.length → us.length + ws.length = fe.ps.length → permL (us ++ ws) p = some args → BindsTo s fd ⟨us, names.zip ws⟩ (fe.ps.zip args) := by
  obtain ⟨S, _, pa, _, nd⟩ := FE.scope h
  obtain ⟨oc, od, kV, doc, pm, an, cdv, ct, osl, rfl, lk, hcd⟩ := F.ex
  simp only [plainArgs, Bool.and_eq_true, decide_eq_true_eq, List.isEmpty_iff, Option.isNone_iff_eq_none] at pa
  obtain ⟨⟨⟨⟨a1, a2⟩, a3⟩, a4⟩, a5⟩ := pa
  refine ⟨.all fun us hl => ?_, fun names s us ws args p h1 h2 h3 h4 h5 h6 => .of_eq (bind_gen ⟨a1, a2, a3, a4, a5⟩ h1 h2 h3 h4 h5 h6)⟩
  have e : fe.ps.take us.length ++ [] = fe.ps := by rw [List.append_nil, hl, List.take_length]
  have q := bind_gen (names := []) (us := us) (ws := []) (args := us) (p := List.range us.length) (ps := fe.ps) (params := defArgs fe.st) (body := defBody fe.st) (scope := defScope fe.st) (x := fe.nm) (qual := fe.qual) (kV := kV) (doc := doc) (pm := pm) (an := an) (cdv := cdv) (ct := ct) ⟨a1, a2, a3, a4, a5⟩
    (by rw [e]; exact nd) (fun k hk => by simp at hk) (by rw [e, hl]; exact permL_range _) (by simpa using hl) (by simpa using hl) (by rw [List.append_nil]; exact permL_range us)
  exact q
theorem prog_ok {P : Program} {w : World} {K : PySem.W.Frag} {mg : Str → Option Value} {base : Heap} {pg : Pg} {g : Gx} {fd : Nat → FuncData} (Fa : Facts pg g K mg fd) (hok : ∀ fe ∈ pg.fes, fe.ok = true) (hcd : ∀ fe ∈ pg.fes, pg.code fe = some fe.body) :
    ∀ n k fe, pg.fes[k]? = some fe → FnG P w K mg base n (g.fa k) (fd k) fe.ps (SpF g (cf pg.tb n) k fe.ws fe.rw) := by
  have good : ∀ (cf' : CF) (n : Nat) (fe : FE), CFok cf' → fe.ok = true → (∀ k fe, pg.fes[k]? = some fe → FnG P w K mg base n (g.fa k) (fd k) fe.ps (SpF g cf' k fe.ws fe.rw)) → ∀ X W, FnCx P w K mg base fe.N (defScope fe.st) n X W → Good g cf' n (pg.kc fe) X W ∧ PassesOwn (model X.prog X.w) X.A X.env X.xe := by
    intro cf' n fe hc ho hf X W ⟨f1, f2, f3, f4, f5, f6, f7, f8, f9, f10, f11, f12, f13⟩
    obtain ⟨S, hk, _, _, _⟩ := FE.scope ho
    refine ⟨⟨f6, by rw [f6]; exact S.nd, f7, f8, fun x _ _ => .inl (f9 x), by rw [f3]; exact Fa.hK, f11, f10, f12, hc, fun gf hgf => ?_, fun p hp => ?_, fun x hx => ?_⟩, f13⟩
    · obtain ⟨j, fe', h1, rfl⟩ := gfs_mem hgf
      simp only [Nat.zero_add]
      obtain ⟨F, hm⟩ := Fa.fn j fe' h1
      have b := fd_binds F (hok fe' (List.mem_of_getElem? h1))
      exact ⟨fd j, by rw [f4]; exact hm, by rw [f3]; exact F.kp, by rw [f1, f2, f3, f4, f5]; exact hf j fe' h1, by rw [f3]; exact b.1, fun names s us ws args p => b.2 names s us ws args p⟩
    · rw [f4]; exact Fa.cs p hp
    · rw [f4]; exact Fa.bs x hx
  have body : ∀ (cf' mk : CF) (n : Nat) (k : Nat) (fe : FE) (cf2 : CF), CFok cf' → pg.fes[k]? = some fe → (∀ k fe, pg.fes[k]? = some fe → FnG P w K mg base n (g.fa k) (fd k) fe.ps (SpF g cf' k fe.ws fe.rw)) → (∀ args, cf2 k args = runF cf' mk ⟨fe.ws, fe.rw, fe.N.length, fe.body⟩ args) → FnG P w K mg base (n + 1) (g.fa k) (fd k) fe.ps (SpF g cf2 k fe.ws fe.rw) := by
    intro cf' mk n k fe cf2 hc h1 hf h2
    have hm := List.mem_of_getElem? h1
    obtain ⟨S, hk, _, hl, _⟩ := FE.scope (hok fe hm)
    refine fn_code (mk := mk) (fc := ⟨fe.ws, fe.rw, fe.N.length, fe.body⟩) (Fa.fn k fe h1).1 S hl rfl (fun X W fx => ?_) h2
    obtain ⟨G, hp⟩ := good cf' n fe hc (hok fe hm) hf X W fx
    exact (cSt_ok (mk := mk) G hk hp sF).2 _ _ (hcd fe hm)
  have tbk : ∀ (k : Nat) (fe : FE), pg.fes[k]? = some fe → pg.tb.fns[k]? = some (FnC.mk fe.ws fe.rw fe.N.length fe.body) := fun k fe h => by
    show (pg.fes.map _)[k]? = _
    rw [List.getElem?_map, h]; rfl
  have zero : ∀ k fe, pg.fes[k]? = some fe → FnG P w K mg base 0 (g.fa k) (fd k) fe.ps (SpF g noCF k fe.ws fe.rw) := fun k fe h =>
    ⟨fun vs H Q E ⟨_, _, _, _, _, z⟩ => z.elim, fun A outer s H args us vs Q E _ _ _ _ _ ⟨_, _, _, _, _, z⟩ => z.elim⟩
  intro n
  induction n with
  | zero => exact zero
  | succ n ih =>
    intro k fe h
    cases n with
    | zero => exact body noCF noCF 0 k fe _ (cf_ok pg.tb 0) h zero fun args => by simp only [cf, tbk k fe h]
    | succ n => exact body (cf pg.tb (n + 1)) (mkOf pg.tb (cf pg.tb n)) (n + 1) k fe _ (cf_ok pg.tb (n + 1)) h ih fun args => by simp only [cf, tbk k fe h]
end PV
end

section
set_option Elab.async false
set_option linter.all false
set_option maxRecDepth 100000
set_option maxHeartbeats 1000000
/-! PV25: the law at the top. -/
namespace PV
open PySem L2 PySem.Spec PyProof.Rows

/-- the law's call at the heap behind the top, its promise kept where no text is under way -/
theorem callG {P : Program} {w : World} {K : PySem.W.Frag} {mg mb : Str → Option Value} {k : Nat} {fa a : Addr} {fd : FuncData} {x : Str} {sp : Sp} {s₁ : Shared} {vs : List Value} {ns : List Int}
    (KX : K.In s₁.heap) (hns : s₁.heap.Ns mainGlobals mg) (hb : s₁.heap.Ns builtinsNs mb) (hbb : ∀ x : Str, x ≠ "__name__" → mb x = bootBuiltins x) (hlim : s₁.heap.NoLimit) (hg : s₁.gens = #[])
    (ha : s₁.heap.get? a = some { cls := .type "list", data := .seq vs.toArray }) (hi : IntsAre vs ns) (hl : ns.length ≤ sizeLine) (hr : Room k callerA)
    (F : ∀ base : Heap, K.In base → base.Ns mainGlobals mg → FnG P w K mg base k fa fd [x] sp) (hbind : ∀ (s : Shared) (u : Value), BindsTo s fd ⟨[u], []⟩ [(x, u)])
    (hsp : ∀ H : Hp, Only H → SqL K H a (ns.map V.int) → sp [.ref a] H (fun v _ => v = .bl true) fun _ _ _ => False) :
    codeAny (model P w) callerA (.call (.ref fa) ⟨[.ref a], []⟩) (fun r s' => r = .ok (.ret (.bool true)) ∧ OldK s₁.heap s'.heap ∧ s'.os = s₁.os ∧ AllBare s'.gens) s₁ := by
  have rv := vals_ints hi
  have lenV := hi.length
  have core : ∀ H : Hp, Only H → SqL K H a (ns.map V.int) → HOk P w H s₁.heap → (∀ b, H b ≠ none → b = a) → (H a ≠ none → K.lookup a = none) →
      codeAny (model P w) callerA (.call (.ref fa) ⟨[.ref a], []⟩) (fun r s' => r = .ok (.ret (.bool true)) ∧ OldK s₁.heap s'.heap ∧ s'.os = s₁.os ∧ AllBare s'.gens) s₁ := by
    intro H hO hS hok hA hK
    have at_a : ∀ {b : Addr}, H b ≠ none → b = a := fun {b} h => hA b h
    have noA : ∀ {b : Addr} {o : Obj} {es : Array DictEntry} {ep : Nat}, s₁.heap.get? b = some o → o.data = .dict es ep → H b = none := fun {b o es ep} e d => by
      cases q : H b with
      | none => rfl
      | some u =>
        have e' : b = a := at_a (by rw [q]; simp)
        subst e'
        rw [ha] at e; cases e
        have d' : Data.seq vs.toArray _ = Data.dict es ep := d
        cases d'
    have nsK : ∀ {b : Addr} {m : Str → Option Value}, s₁.heap.Ns b m → (hidT s₁.heap H).Ns b m := fun {b m} ⟨o, es, ep, e, d, r⟩ => ⟨o, es, ep, hidT_get e (noA e d), d, r⟩
    have hKb : K.In (hidT s₁.heap H) := fun b o e => hidT_get (KX b o e) (by
      cases q : H b with
      | none => rfl
      | some u =>
        have e' : b = a := at_a (by rw [q]; simp)
        subst e'
        rw [hK (by rw [q]; simp)] at e; cases e)
    have hM : Mod K mg (hidT s₁.heap H) := ⟨hKb, nsK hns, ⟨mb, nsK hb, hbb⟩, let ⟨mc, h1, h2⟩ := hlim; ⟨mc, nsK h1, h2⟩⟩
    have e0 : Env0 P w K mg (hidT s₁.heap H) callerA [] s₁ H := ⟨rfl, hM, fun b o e => of_hidT e, Nat.le_of_eq (hidT_size _ _), trivial, fun b hb => absurd (show b ∈ ([] : List Addr) from hb) (by simp), hok, .of_eq hg⟩
    refine codeAny_mono ((F _ hKb (nsK hns)).run callerA [] s₁ H ⟨[.ref a], []⟩ [.ref a] [.ref a] _ _ rfl hr e0 (hbind s₁ (.ref a)) (.cons rfl .nil) (hsp H hO hS)) fun r s' h => ?_
    cases r with
    | error e =>
      obtain ⟨_, _, _, _, _, _, _, _, _, _, _, _, z⟩ := h
      exact z.elim
    | ok fl =>
      cases fl with
      | next => exact False.elim h
      | brk => exact False.elim h
      | cont => exact False.elim h
      | ret u =>
        obtain ⟨v, H', os, bare, un, hok', r', q⟩ := h
        have q' : v = .bl true := q
        subst q'
        obtain rfl : u = Value.bool true := r'
        refine ⟨rfl, OldK.of_keep fun b o e => ?_, os, bare⟩
        cases q : H b with
        | none => exact un.keep b o e q (by intro z; exact absurd (show b ∈ ([] : List Addr) from z) (by simp)) (by simp)
        | some u =>
          rcases hO b with z | ⟨ob, xs, z⟩
          · rw [q] at z; cases z
          · have z2 := un.frzs b ob _ z
            obtain ⟨e1, _⟩ := hok b _ z
            obtain ⟨e2, _⟩ := hok' b _ z2
            rw [e] at e1; cases e1
            exact e2
  cases hk : K.lookup a with
  | some o =>
    have e := KX a o hk
    rw [ha] at e
    cases e
    refine core (fun _ => none) (fun _ => .inl rfl) (.inr ⟨_, vs.toArray, _, hk, rfl, rfl, rfl, by rw [List.size_toArray, lenV]; exact hl, by simpa using rv⟩) (fun b u z => by have z' : (none : Option HO) = some u := z; cases z') (fun b z => absurd rfl z) fun z => absurd rfl z
  | none =>
    refine core (fun b => if b = a then some (.frz { cls := .type "list", data := .seq vs.toArray } (.lst (ns.map V.int))) else none) (fun b => ?_) (.inl (.inr ⟨{ cls := .type "list", data := .seq vs.toArray }, if_pos rfl⟩)) (fun b u z => ?_) (fun b z => ?_) fun _ => hk
    · by_cases hb : b = a
      · exact .inr ⟨_, _, if_pos hb⟩
      · exact .inl (if_neg hb)
    · by_cases hb : b = a
      · have z' := (if_pos hb).symm.trans z
        cases z'
        subst hb
        exact ⟨ha, by rw [List.length_map]; exact hl, vs, _, rv, ha⟩
      · have z' := (if_neg hb).symm.trans z
        cases z'
    · by_cases hb : b = a
      · exact hb
      · exact absurd (if_neg hb) z
theorem walkG {l : PySem.W.OpenLaw} {n k : Nat} {q : Program} {loose : List Str} {XP : (Str → Option Value) → Heap → Prop} {YP : World → Heap → Prop} {d : DefRec} {K : Params → PySem.W.Frag} {x : Str}
    (hn : l.most = some n) (hn2 : n ≤ sizeLine) (hdf : d.params.defaults = []) (hr : Room k callerA) (hY : ∀ (w : World) (h : Heap), YP w h → (K w.params).In h)
    (F : ∀ (w : World) (mg : Str → Option Value) (fa : Addr) (h : Heap), (K w.params).In h → h.Ns mainGlobals mg → mg d.name = some (.ref fa) →
      ∃ (fd : FuncData) (sp : Sp), (∀ (s : Shared) (u : Value), BindsTo s fd ⟨[u], []⟩ [(x, u)]) ∧
        (∀ (H : Hp) (a : Addr) (ns : List Int), ns.length ≤ n → Only H → SqL (K w.params) H a (ns.map V.int) → sp [.ref a] H (fun v _ => v = .bl true) fun _ _ _ => False) ∧
        ∀ base : Heap, (K w.params).In base → base.Ns mainGlobals mg → FnG l.prog w (K w.params) mg base k fa fd [x] sp) :
    PySem.W.WalkO q loose XP YP l.row.toRowW d [] (fun f vs => PySem.call f vs) := by
  refine Att.attach_call hn hdf fun w s₀ s₁ mg mb fa o pm cd doc a vs ns G Y ho hd hcd hmg hobj hints hlen hg => ?_
  have KX := hY w _ Y
  obtain ⟨fd, sp, hb, hsp, hF⟩ := F w mg fa _ KX G.T.g hmg
  exact callG KX G.T.g G.T.b G.T.builtins G.T.nolimit hg hobj hints (Nat.le_trans hlen hn2) hr hF hb (fun H hO hS => hsp H a ns hlen hO hS)
/-- the plain law: the law's code answers True at every script -/
def Plain (pg : Pg) (kl dp : Nat) : Prop := ∀ ns : List Int, ns.length ≤ 63 → ∃ o, cf pg.tb dp kl [.lst (ns.map .int)] = .ok (.bl true, [o])
theorem dns_ints {g : Gx} {P : Hp} : ∀ ns : List Int, Dns g P (ns.map V.int) (ns.map D.int)
  | [] => .nil
  | n :: r => .cons (.int n) (dns_ints r)
theorem plain_sp {pg : Pg} {kl dp : Nat} {g : Gx} (h : Plain pg kl dp) (H : Hp) (a : Addr) (ns : List Int) (hn : ns.length ≤ 63) (hS : SqL g.K H a (ns.map V.int)) : SpF g (cf pg.tb dp) kl [.frz] .frz [.ref a] H (fun v _ => v = .bl true) fun _ _ _ => False := by
  obtain ⟨o, ho⟩ := h ns hn
  refine ⟨[.lst (ns.map .int)], H, fun _ => [], rfl, ?_, ?_⟩
  · have := frz_rel (g := g) (P := H) (H := H) (vs := [V.ref a]) (ds := [D.lst (ns.map .int)]) (.cons (.lst hS (dns_ints ns)) .nil) (Sub.refl H)
    exact this
  · rw [ho]
    refine ⟨rfl, fun v H' P' ψ' r s hv => ?_⟩
    exact bl_of hv
/-- a module's tuple of texts -/
theorem strs_dn {g : Gx} {P : Hp} {z : Addr} {dd : Option Addr} {n : Nat} {sl : Array (Option Value)} (its : List (Str × Tok)) (h : g.K.lookup z = some ⟨.type "tuple", dd, .seq (its.map fun p => Value.str p.1 p.2).toArray n, sl⟩) (hl : its.length ≤ 1000) : Dn g P (.ref z) (.tup (its.map fun p => .str p.1)) := by
  have v : ∀ l : List (Str × Tok), Vals (l.map fun p => V.str p.1) (l.map fun p => Value.str p.1 p.2) := fun l => by
    induction l with
    | nil => exact .nil
    | cons p r ih => exact .cons ⟨p.2, rfl⟩ ih
  have d : ∀ l : List (Str × Tok), Dns g P (l.map fun p => V.str p.1) (l.map fun p => D.str p.1) := fun l => by
    induction l with
    | nil => exact .nil
    | cons p r ih => exact .cons (.str _) ih
  exact .tup (xs := its.map fun p => V.str p.1) (.inr ⟨_, _, _, h, rfl, rfl, by rw [List.size_toArray, List.length_map]; exact Nat.le_trans hl (by decide), by simpa using v its⟩) (d its)
/-- the table with its codes -/
def Pg.fill (pg : Pg) : Pg := { pg with fes := pg.fes.map fun fe => { fe with body := (pg.code fe).getD .skip } }
theorem gfs_map (f : FE → S) : ∀ (l : List FE) (k : Nat), gfs k (l.map fun fe => { fe with body := f fe }) = gfs k l
  | [], _ => rfl
  | fe :: r, k => by simp only [List.map_cons, gfs, gfs_map f r (k + 1)]
theorem fill_code {pg : Pg} (h : ∀ fe ∈ pg.fes, (pg.code fe).isSome = true) : ∀ fe ∈ pg.fill.fes, pg.fill.code fe = some fe.body := by
  intro fe hm
  obtain ⟨fe0, h0, rfl⟩ := List.mem_map.mp hm
  have e : pg.fill.code { fe0 with body := (pg.code fe0).getD .skip } = pg.code fe0 := by
    unfold Pg.code Pg.kc
    show cSs { N := fe0.N, sc := defScope fe0.st, fs := gfs 0 pg.fill.fes, cs := pg.cs, bs := pg.bs } _ _ _ = _
    rw [show gfs 0 pg.fill.fes = gfs 0 pg.fes from gfs_map _ _ _]
  rw [e]
  obtain ⟨c, hc⟩ := Option.isSome_iff_exists.mp (h fe0 h0)
  show pg.code fe0 = some ((pg.code fe0).getD .skip)
  rw [hc]; rfl
theorem fill_ok {pg : Pg} (h : ∀ fe ∈ pg.fes, fe.ok = true) : ∀ fe ∈ pg.fill.fes, fe.ok = true := by
  intro fe hm
  obtain ⟨fe0, h0, rfl⟩ := List.mem_map.mp hm
  exact h fe0 h0
theorem Facts.fill {pg : Pg} {g : Gx} {K : PySem.W.Frag} {mg : Str → Option Value} {fd : Nat → FuncData} (F : Facts pg g K mg fd) : Facts pg.fill g K mg fd := by
  refine ⟨F.hK, fun k fe h => ?_, F.cs, F.bs⟩
  have h' : (pg.fes.map _)[k]? = some fe := h
  rw [List.getElem?_map] at h'
  obtain ⟨fe0, h0, rfl⟩ := Option.map_eq_some_iff.mp h'
  exact F.fn k fe0 h0
/-- the law's promise at the top -/
theorem law_end {pg : Pg} {g : Gx} {P : Program} {w : World} {K : PySem.W.Frag} {mg : Str → Option Value} {fd : Nat → FuncData} {fa : Addr} {kl dp : Nat} {fl : FE} (F : Facts pg g K mg fd) (hfa : g.fa kl = fa) (hok : ∀ fe ∈ pg.fes, fe.ok = true) (hcd : ∀ fe ∈ pg.fes, (pg.code fe).isSome = true)
    (hl : pg.fes[kl]? = some fl) (hw : fl.ws = [.frz]) (hr : fl.rw = .frz) (hp : fl.ps = [("script" : Str)]) (pl : Plain pg.fill kl dp) :
    ∃ (fd : FuncData) (sp : Sp), (∀ (s : Shared) (u : Value), BindsTo s fd ⟨[u], []⟩ [("script", u)]) ∧ (∀ (H : Hp) (a : Addr) (ns : List Int), ns.length ≤ 63 → Only H → SqL K H a (ns.map V.int) → sp [.ref a] H (fun v _ => v = .bl true) fun _ _ _ => False) ∧
      ∀ base : Heap, K.In base → base.Ns mainGlobals mg → FnG P w K mg base dp fa fd ["script"] sp := by
  have hl' : pg.fill.fes[kl]? = some { fl with body := (pg.code fl).getD .skip } := by
    show (pg.fes.map _)[kl]? = _
    rw [List.getElem?_map, hl]; rfl
  have b := fd_binds (F.fn kl fl hl).1 (hok fl (List.mem_of_getElem? hl))
  subst hfa
  refine ⟨fd kl, SpF g (cf pg.fill.tb dp) kl [.frz] .frz, fun s u => ?_, fun H a ns hn _ hS => plain_sp pl H a ns hn (by rw [← F.hK]; exact hS), fun base _ _ => ?_⟩
  · have q := b.2 [] s [u] [] [u] [0] (by rw [hp]; simp) (fun k h => by simp at h) (by rw [hp]; rfl) (by rw [hp]; rfl) (by rw [hp]; rfl) rfl
    rw [hp] at q
    exact q
  · have q := prog_ok (P := P) (w := w) (base := base) F.fill (fill_ok hok) (fill_code hcd) dp kl _ hl'
    simp only [hw, hr, hp] at q
    exact q
end PV
end

section
set_option Elab.async false
set_option linter.all false
set_option maxRecDepth 100000
/-! PV26: the evaluator, step by step (for simp). -/
namespace PV
open PySem L2

theorem rangeD_map : ∀ (n : Nat) (lo : Int), rangeD lo n = (List.range n).map fun k : Nat => D.int (lo + (k : Int))
  | 0, _ => rfl
  | n + 1, lo => by
    rw [rangeD, rangeD_map n, List.range_succ_eq_map]
    simp only [List.map_cons, List.map_map]
    congr 1
    · simp
    · apply List.map_congr_left
      intro k _
      simp only [Function.comp_apply]
      congr 1
      omega
/-- what range(n) walks -/
def rangeI (n : Int) (env : Env) : R Env (List D × Env) := if decide (-(2 ^ 62) ≤ n) && decide (n < 2 ^ 62) then .ok (rangeD 0 n.toNat, env) else .stuck
theorem rangeI_ok {n : Int} {env : Env} (h0 : 0 ≤ n) (h : n ≤ 1000000) : rangeI n env = .ok ((List.range n.toNat).map fun k : Nat => D.int (k : Int), env) := by
  unfold rangeI
  have h1 : -(2 ^ 62) ≤ n := Int.le_trans (by decide) h0
  have h2 : n < 2 ^ 62 := Int.lt_of_le_of_lt h (by decide)
  rw [decide_eq_true h1, decide_eq_true h2, Bool.true_and, if_pos rfl, rangeD_map]
  simp only [Int.zero_add]
/-- a turn of a for loop -/
def trn (cf mk : CF) (a : C) (s : S) (d : D) (e : Env) : Out := onO (bindT a d e) (evS cf mk s)
@[simp] theorem trn_eq (cf mk : CF) (a : C) (s : S) (d : D) (e : Env) : trn cf mk a s d e = onO (bindT a d e) (evS cf mk s) := nr rfl
def rng0 (r : D × Env) : R Env (List D × Env) := match r.1 with
  | .int n => rangeI n r.2
  | _ => .stuck
/-- rng0, told so that nothing looks within -/
theorem rng_ex : ∃ f, f = rng0 := ⟨rng0, rfl⟩
noncomputable def rng : D × Env → R Env (List D × Env) := Classical.choose rng_ex
theorem rng_eq : rng = rng0 := Classical.choose_spec rng_ex
theorem rng_ok {n : Int} {env : Env} (h0 : 0 ≤ n) (h : n ≤ 1000000) : rng (.int n, env) = .ok ((List.range n.toNat).map fun k : Nat => D.int (k : Int), env) := by
  rw [rng_eq]
  exact rangeI_ok h0 h
theorem tm_ex : ∃ f, f = turnsMost := ⟨turnsMost, rfl⟩
noncomputable def tMost : Nat := Classical.choose tm_ex
theorem tMost_eq : tMost = turnsMost := Classical.choose_spec tm_ex
theorem tMost_ge : 1000000 ≤ tMost := by rw [tMost_eq]; decide
section
variable {cf mk : CF} {env : Env} {a b c as bs e : C} {s t : S}
@[simp] theorem evE_var (i : Nat) : evE cf mk (.var i) env = match getV env i with | some d => .ok (d, frzAt env i) | none => .stuck := by
  first | exact nr rfl | (simp only [evE, evA, evV, evC, evI, evS]; done) | (simp only [evE, evA, evV, evC, evI, evS]; rfl)
@[simp] theorem evE_lit (d : D) : evE cf mk (.lit d) env = .ok (d, env) := by
  first | exact nr rfl | (simp only [evE, evA, evV, evC, evI, evS]; done) | (simp only [evE, evA, evV, evC, evI, evS]; rfl)
@[simp] theorem evE_prim (q : P) : evE cf mk (.prim q as) env = (evA cf mk as env).bind fun r => match q.run r.1 with | some d => .ok (d, r.2) | none => .stuck := by
  first | exact nr rfl | (simp only [evE, evA, evV, evC, evI, evS]; done) | (simp only [evE, evA, evV, evC, evI, evS]; rfl)
@[simp] theorem evE_and : evE cf mk (.and a b) env = (evE cf mk a env).bind fun r => match r.1 with
    | .bl true => (evE cf mk b r.2).bind fun q => match q.1 with
      | .bl c => .ok (.bl c, q.2)
      | _ => .stuck
    | .bl false => .ok (.bl false, r.2)
    | _ => .stuck := by
  first | exact nr rfl | (simp only [evE, evA, evV, evC, evI, evS]; done) | (simp only [evE, evA, evV, evC, evI, evS]; rfl)
@[simp] theorem evE_or : evE cf mk (.or a b) env = (evE cf mk a env).bind fun r => match r.1 with
    | .bl true => .ok (.bl true, r.2)
    | .bl false => (evE cf mk b r.2).bind fun q => match q.1 with
      | .bl c => .ok (.bl c, q.2)
      | _ => .stuck
    | _ => .stuck := by
  first | exact nr rfl | (simp only [evE, evA, evV, evC, evI, evS]; done) | (simp only [evE, evA, evV, evC, evI, evS]; rfl)
@[simp] theorem evE_ite : evE cf mk (.ite c a b) env = (evE cf mk c env).bind fun r => match r.1 with
    | .bl true => evE cf mk a r.2
    | .bl false => evE cf mk b r.2
    | _ => .stuck := by
  first | exact nr rfl | (simp only [evE, evA, evV, evC, evI, evS]; done) | (simp only [evE, evA, evV, evC, evI, evS]; rfl)
@[simp] theorem evE_tup : evE cf mk (.tup as) env = (evV cf mk as env).bind fun r => if r.1.length ≤ lim then .ok (.tup r.1, r.2) else .stuck := by
  first | exact nr rfl | (simp only [evE, evA, evV, evC, evI, evS]; done) | (simp only [evE, evA, evV, evC, evI, evS]; rfl)
@[simp] theorem evE_lst : evE cf mk (.lst as) env = (evV cf mk as env).bind fun r => if r.1.length ≤ lim then .ok (.lst r.1, r.2) else .stuck := by
  first | exact nr rfl | (simp only [evE, evA, evV, evC, evI, evS]; done) | (simp only [evE, evA, evV, evC, evI, evS]; rfl)
@[simp] theorem evE_dct : evE cf mk (.dct as) env = (evV cf mk as env).bind fun r => match evens r.1 with
    | some p => if p.1.all D.keyS && decide (p.1.length ≤ 15) then (let q := putAll [] [] p.1 p.2; .ok (.dct q.1 q.2, r.2)) else .stuck
    | none => .stuck := by
  first | exact nr rfl | (simp only [evE, evA, evV, evC, evI, evS]; done) | (simp only [evE, evA, evV, evC, evI, evS]; rfl)
@[simp] theorem evE_call (f : Nat) (w : W) : evE cf mk (.call f w as) env = (evC cf mk as env).bind fun r => match cf f r.1 with
    | .ok (d, outs) => .ok (d, ioSet as outs r.2)
    | .exc x outs => .exc x (ioSet as outs r.2)
    | .stuck => .stuck := by
  first | exact nr rfl | (simp only [evE, evA, evV, evC, evI, evS]; done) | (simp only [evE, evA, evV, evC, evI, evS]; rfl)
@[simp] theorem evE_callM (f : Nat) (w0 w : W) : evE cf mk (.callM f w0 w a as) env = (evE cf mk a env).bind fun r0 => if W.same (freshW a r0.1) w then (evC cf mk as r0.2).bind fun r => match cf f (r0.1 :: r.1) with
    | .ok (d, outs) => .ok (d, ioSet as outs.tail r.2)
    | .exc x outs => .exc x (ioSet as outs.tail r.2)
    | .stuck => .stuck
    else .stuck := by
  first | exact nr rfl | (simp only [evE, evA, evV, evC, evI, evS]; done) | (simp only [evE, evA, evV, evC, evI, evS]; rfl)
@[simp] theorem evE_callK (f : Nat) (ks : List Nat) : evE cf mk (.callK f ks as bs) env = (evV cf mk as env).bind fun r => (evV cf mk bs r.2).bind fun q => match permL (r.1 ++ q.1) ks with
    | some args => match cf f args with
      | .ok (d, _) => .ok (d, q.2)
      | .exc x _ => .exc x q.2
      | .stuck => .stuck
    | none => .stuck := by
  first | exact nr rfl | (simp only [evE, evA, evV, evC, evI, evS]; done) | (simp only [evE, evA, evV, evC, evI, evS]; rfl)
@[simp] theorem evE_comp (own : List Nat) : evE cf mk (.comp a b c e own) env = (evI cf mk b env).bind fun r =>
    ((compL (compT (evE cf mk c) (evE cf mk e) a own) r.1 (wipeE r.2 own) []).calm).bind fun q => .ok (.lst q.1, backE r.2 q.2 own) := by
  first | exact nr rfl | (simp only [evE, evA, evV, evC, evI, evS]; done) | (simp only [evE, evA, evV, evC, evI, evS]; rfl)
@[simp] theorem evE_get (i : Nat) : evE cf mk (.get (.brw i []) a b) env = match readB env i [] with
    | some (.dct _ _) => (evE cf mk a env).bind fun r1 => (if b.isNil then R.ok (D.non, r1.2) else evE cf mk b r1.2).bind fun r2 => match readB r2.2 i [] with
      | some d => match get2D d r1.1 r2.1 with
        | some v => .ok (v, r2.2)
        | none => .stuck
      | none => .stuck
    | _ => .stuck := by
  first | exact nr rfl | (simp only [evE, evA, evV, evC, evI, evS]; done) | (simp only [evE, evA, evV, evC, evI, evS]; rfl)
@[simp] theorem evE_slb (i : Nat) : evE cf mk (.sl (.brw i []) a b) env = if (getV env i).isSome then
      (if a.isNil then R.ok (none, env) else (evE cf mk a env).bind toI).bind fun r1 => (if b.isNil then R.ok (none, r1.2) else (evE cf mk b r1.2).bind toI).bind fun r2 => match readB r2.2 i [] with
        | some d => match sliceD d (ofI r1.1) (ofI r2.1) with
          | some x => .ok (x, r2.2)
          | none => .stuck
        | none => .stuck
    else .stuck := by
  first | exact nr rfl | (simp only [evE, evA, evV, evC, evI, evS]; done) | (simp only [evE, evA, evV, evC, evI, evS]; rfl)
@[simp] theorem evE_sll : evE cf mk (.sl (.lst as) a b) env = (evE cf mk (.lst as) env).bind fun r0 =>
      (if a.isNil then R.ok (none, r0.2) else (evE cf mk a r0.2).bind toI).bind fun r1 => (if b.isNil then R.ok (none, r1.2) else (evE cf mk b r1.2).bind toI).bind fun r2 => match sliceD r0.1 (ofI r1.1) (ofI r2.1) with
        | some x => .ok (x, r2.2)
        | none => .stuck := by
  first | exact nr rfl | (simp only [evE, evA, evV, evC, evI, evS]; done) | (simp only [evE, evA, evV, evC, evI, evS]; rfl)
@[simp] theorem evE_pop (i : Nat) (fs : List Nat) : evE cf mk (.pop i fs) env = match readP env i fs, wP env i fs with
    | some (.lst ds), some (.own .frz) => match ds.getLast? with
      | some d => (R.of (putP env i fs (.lst ds.dropLast))).bind fun env' => .ok (d, env')
      | none => .stuck
    | _, _ => .stuck := by
  first | exact nr rfl | (simp only [evE, evA, evV, evC, evI, evS]; done) | (simp only [evE, evA, evV, evC, evI, evS]; rfl)
@[simp] theorem evE_popAt (i : Nat) (fs : List Nat) : evE cf mk (.popAt i fs a) env = match wP env i fs, readP env i fs with
    | some (.own .frz), some (.lst _) => (evE cf mk a env).bind fun r => match readP r.2 i fs, wP r.2 i fs, r.1 with
      | some (.lst ds), some (.own .frz), .int k => match if ds.length ≤ lim then seqIx k ds.length else none with
        | some n => match ds[n]? with
          | some d => (R.of (putP r.2 i fs (.lst (ds.eraseIdx n)))).bind fun env' => .ok (d, env')
          | none => .stuck
        | none => .stuck
      | _, _, _ => .stuck
    | _, _ => .stuck := by
  first | exact nr rfl | (simp only [evE, evA, evV, evC, evI, evS]; done) | (simp only [evE, evA, evV, evC, evI, evS]; rfl)
@[simp] theorem evV_nil : evV cf mk .nil env = .ok ([], env) := by
  first | exact nr rfl | (simp only [evE, evA, evV, evC, evI, evS]; done) | (simp only [evE, evA, evV, evC, evI, evS]; rfl)
@[simp] theorem evV_cons : evV cf mk (.cons a as) env = (evE cf mk a env).bind fun r => (evV cf mk as r.2).bind fun q => .ok (r.1 :: q.1, q.2) := by
  first | exact nr rfl | (simp only [evE, evA, evV, evC, evI, evS]; done) | (simp only [evE, evA, evV, evC, evI, evS]; rfl)
@[simp] theorem evA_nil : evA cf mk .nil env = .ok ([], env) := by
  first | exact nr rfl | (simp only [evE, evA, evV, evC, evI, evS]; done) | (simp only [evE, evA, evV, evC, evI, evS]; rfl)
@[simp] theorem evA_brw (i : Nat) : evA cf mk (.cons (.brw i []) as) env = if (getV env i).isSome then (evA cf mk as env).bind fun q => match readB q.2 i [] with
    | some d => .ok (d :: q.1, q.2)
    | none => .stuck
    else .stuck := by
  first | exact nr rfl | (simp only [evE, evA, evV, evC, evI, evS]; done) | (simp only [evE, evA, evV, evC, evI, evS]; rfl)
theorem evA_cons (h : a.isBrw = false) : evA cf mk (.cons a as) env = (evE cf mk a env).bind fun r => (evA cf mk as r.2).bind fun q => .ok (r.1 :: q.1, q.2) := by
  cases a <;> first | (simp only [evA]; done) | (rename_i i fs; cases fs <;> first | (simp only [evA]; done) | cases h)
@[simp] theorem evC_nil : evC cf mk .nil env = .ok ([], env) := by
  first | exact nr rfl | (simp only [evE, evA, evV, evC, evI, evS]; done) | (simp only [evE, evA, evV, evC, evI, evS]; rfl)
@[simp] theorem evC_io (i : Nat) (w : W) : evC cf mk (.cons (.io i w) as) env = if (getV env i).isSome then (evC cf mk as env).bind fun q => match readIO q.2 i w with
    | some d => .ok (d :: q.1, q.2)
    | none => .stuck
    else .stuck := by
  first | exact nr rfl | (simp only [evE, evA, evV, evC, evI, evS]; done) | (simp only [evE, evA, evV, evC, evI, evS]; rfl)
theorem evC_cons (h : a.isIo = false) : evC cf mk (.cons a as) env = (evE cf mk a env).bind fun r => (evC cf mk as r.2).bind fun q => .ok (r.1 :: q.1, q.2) := by
  cases a <;> first | (simp only [evC]; done) | cases h
@[simp] theorem evA_var (i : Nat) : evA cf mk (.cons (.var i) bs) env = (evE cf mk (.var i) env).bind fun r => (evA cf mk bs r.2).bind fun q => .ok (r.1 :: q.1, q.2) := evA_cons rfl
@[simp] theorem evC_var (i : Nat) : evC cf mk (.cons (.var i) bs) env = (evE cf mk (.var i) env).bind fun r => (evC cf mk bs r.2).bind fun q => .ok (r.1 :: q.1, q.2) := evC_cons rfl
@[simp] theorem evA_lit (d : D) : evA cf mk (.cons (.lit d) bs) env = (evE cf mk (.lit d) env).bind fun r => (evA cf mk bs r.2).bind fun q => .ok (r.1 :: q.1, q.2) := evA_cons rfl
@[simp] theorem evC_lit (d : D) : evC cf mk (.cons (.lit d) bs) env = (evE cf mk (.lit d) env).bind fun r => (evC cf mk bs r.2).bind fun q => .ok (r.1 :: q.1, q.2) := evC_cons rfl
@[simp] theorem evA_prim (q : P) : evA cf mk (.cons (.prim q as) bs) env = (evE cf mk (.prim q as) env).bind fun r => (evA cf mk bs r.2).bind fun q => .ok (r.1 :: q.1, q.2) := evA_cons rfl
@[simp] theorem evC_prim (q : P) : evC cf mk (.cons (.prim q as) bs) env = (evE cf mk (.prim q as) env).bind fun r => (evC cf mk bs r.2).bind fun q => .ok (r.1 :: q.1, q.2) := evC_cons rfl
@[simp] theorem evA_sl  : evA cf mk (.cons (.sl a b c) bs) env = (evE cf mk (.sl a b c) env).bind fun r => (evA cf mk bs r.2).bind fun q => .ok (r.1 :: q.1, q.2) := evA_cons rfl
@[simp] theorem evC_sl  : evC cf mk (.cons (.sl a b c) bs) env = (evE cf mk (.sl a b c) env).bind fun r => (evC cf mk bs r.2).bind fun q => .ok (r.1 :: q.1, q.2) := evC_cons rfl
@[simp] theorem evA_and  : evA cf mk (.cons (.and a b) bs) env = (evE cf mk (.and a b) env).bind fun r => (evA cf mk bs r.2).bind fun q => .ok (r.1 :: q.1, q.2) := evA_cons rfl
@[simp] theorem evC_and  : evC cf mk (.cons (.and a b) bs) env = (evE cf mk (.and a b) env).bind fun r => (evC cf mk bs r.2).bind fun q => .ok (r.1 :: q.1, q.2) := evC_cons rfl
@[simp] theorem evA_or  : evA cf mk (.cons (.or a b) bs) env = (evE cf mk (.or a b) env).bind fun r => (evA cf mk bs r.2).bind fun q => .ok (r.1 :: q.1, q.2) := evA_cons rfl
@[simp] theorem evC_or  : evC cf mk (.cons (.or a b) bs) env = (evE cf mk (.or a b) env).bind fun r => (evC cf mk bs r.2).bind fun q => .ok (r.1 :: q.1, q.2) := evC_cons rfl
@[simp] theorem evA_ite  : evA cf mk (.cons (.ite c a b) bs) env = (evE cf mk (.ite c a b) env).bind fun r => (evA cf mk bs r.2).bind fun q => .ok (r.1 :: q.1, q.2) := evA_cons rfl
@[simp] theorem evC_ite  : evC cf mk (.cons (.ite c a b) bs) env = (evE cf mk (.ite c a b) env).bind fun r => (evC cf mk bs r.2).bind fun q => .ok (r.1 :: q.1, q.2) := evC_cons rfl
@[simp] theorem evA_chain (p q : P) : evA cf mk (.cons (.chain p q a b c) bs) env = (evE cf mk (.chain p q a b c) env).bind fun r => (evA cf mk bs r.2).bind fun q => .ok (r.1 :: q.1, q.2) := evA_cons rfl
@[simp] theorem evC_chain (p q : P) : evC cf mk (.cons (.chain p q a b c) bs) env = (evE cf mk (.chain p q a b c) env).bind fun r => (evC cf mk bs r.2).bind fun q => .ok (r.1 :: q.1, q.2) := evC_cons rfl
@[simp] theorem evA_tup  : evA cf mk (.cons (.tup as) bs) env = (evE cf mk (.tup as) env).bind fun r => (evA cf mk bs r.2).bind fun q => .ok (r.1 :: q.1, q.2) := evA_cons rfl
@[simp] theorem evC_tup  : evC cf mk (.cons (.tup as) bs) env = (evE cf mk (.tup as) env).bind fun r => (evC cf mk bs r.2).bind fun q => .ok (r.1 :: q.1, q.2) := evC_cons rfl
@[simp] theorem evA_lst  : evA cf mk (.cons (.lst as) bs) env = (evE cf mk (.lst as) env).bind fun r => (evA cf mk bs r.2).bind fun q => .ok (r.1 :: q.1, q.2) := evA_cons rfl
@[simp] theorem evC_lst  : evC cf mk (.cons (.lst as) bs) env = (evE cf mk (.lst as) env).bind fun r => (evC cf mk bs r.2).bind fun q => .ok (r.1 :: q.1, q.2) := evC_cons rfl
@[simp] theorem evA_dct  : evA cf mk (.cons (.dct as) bs) env = (evE cf mk (.dct as) env).bind fun r => (evA cf mk bs r.2).bind fun q => .ok (r.1 :: q.1, q.2) := evA_cons rfl
@[simp] theorem evC_dct  : evC cf mk (.cons (.dct as) bs) env = (evE cf mk (.dct as) env).bind fun r => (evC cf mk bs r.2).bind fun q => .ok (r.1 :: q.1, q.2) := evC_cons rfl
@[simp] theorem evA_get  : evA cf mk (.cons (.get a b c) bs) env = (evE cf mk (.get a b c) env).bind fun r => (evA cf mk bs r.2).bind fun q => .ok (r.1 :: q.1, q.2) := evA_cons rfl
@[simp] theorem evC_get  : evC cf mk (.cons (.get a b c) bs) env = (evE cf mk (.get a b c) env).bind fun r => (evC cf mk bs r.2).bind fun q => .ok (r.1 :: q.1, q.2) := evC_cons rfl
@[simp] theorem evA_call (f : Nat) (w : W) : evA cf mk (.cons (.call f w as) bs) env = (evE cf mk (.call f w as) env).bind fun r => (evA cf mk bs r.2).bind fun q => .ok (r.1 :: q.1, q.2) := evA_cons rfl
@[simp] theorem evC_call (f : Nat) (w : W) : evC cf mk (.cons (.call f w as) bs) env = (evE cf mk (.call f w as) env).bind fun r => (evC cf mk bs r.2).bind fun q => .ok (r.1 :: q.1, q.2) := evC_cons rfl
@[simp] theorem evA_callM (f : Nat) (w0 w : W) : evA cf mk (.cons (.callM f w0 w a as) bs) env = (evE cf mk (.callM f w0 w a as) env).bind fun r => (evA cf mk bs r.2).bind fun q => .ok (r.1 :: q.1, q.2) := evA_cons rfl
@[simp] theorem evC_callM (f : Nat) (w0 w : W) : evC cf mk (.cons (.callM f w0 w a as) bs) env = (evE cf mk (.callM f w0 w a as) env).bind fun r => (evC cf mk bs r.2).bind fun q => .ok (r.1 :: q.1, q.2) := evC_cons rfl
@[simp] theorem evA_callK (f : Nat) (ks : List Nat) : evA cf mk (.cons (.callK f ks as bs) bs) env = (evE cf mk (.callK f ks as bs) env).bind fun r => (evA cf mk bs r.2).bind fun q => .ok (r.1 :: q.1, q.2) := evA_cons rfl
@[simp] theorem evC_callK (f : Nat) (ks : List Nat) : evC cf mk (.cons (.callK f ks as bs) bs) env = (evE cf mk (.callK f ks as bs) env).bind fun r => (evC cf mk bs r.2).bind fun q => .ok (r.1 :: q.1, q.2) := evC_cons rfl
@[simp] theorem evA_comp (own : List Nat) : evA cf mk (.cons (.comp a b c e own) bs) env = (evE cf mk (.comp a b c e own) env).bind fun r => (evA cf mk bs r.2).bind fun q => .ok (r.1 :: q.1, q.2) := evA_cons rfl
@[simp] theorem evC_comp (own : List Nat) : evC cf mk (.cons (.comp a b c e own) bs) env = (evE cf mk (.comp a b c e own) env).bind fun r => (evC cf mk bs r.2).bind fun q => .ok (r.1 :: q.1, q.2) := evC_cons rfl
@[simp] theorem evA_pop (i : Nat) (fs : List Nat) : evA cf mk (.cons (.pop i fs) bs) env = (evE cf mk (.pop i fs) env).bind fun r => (evA cf mk bs r.2).bind fun q => .ok (r.1 :: q.1, q.2) := evA_cons rfl
@[simp] theorem evC_pop (i : Nat) (fs : List Nat) : evC cf mk (.cons (.pop i fs) bs) env = (evE cf mk (.pop i fs) env).bind fun r => (evC cf mk bs r.2).bind fun q => .ok (r.1 :: q.1, q.2) := evC_cons rfl
@[simp] theorem evA_popAt (i : Nat) (fs : List Nat) : evA cf mk (.cons (.popAt i fs a) bs) env = (evE cf mk (.popAt i fs a) env).bind fun r => (evA cf mk bs r.2).bind fun q => .ok (r.1 :: q.1, q.2) := evA_cons rfl
@[simp] theorem evC_popAt (i : Nat) (fs : List Nat) : evC cf mk (.cons (.popAt i fs a) bs) env = (evE cf mk (.popAt i fs a) env).bind fun r => (evC cf mk bs r.2).bind fun q => .ok (r.1 :: q.1, q.2) := evC_cons rfl
@[simp] theorem evI_val : evI cf mk (.itVal a) env = (evE cf mk a env).bind fun r => match r.1.items? with
    | some ds => .ok (ds, r.2)
    | none => .stuck := by
  first | exact nr rfl | (simp only [evE, evA, evV, evC, evI, evS]; done) | (simp only [evE, evA, evV, evC, evI, evS]; rfl)
@[simp] theorem evI_range1 : evI cf mk (.itRange1 a) env = (evE cf mk a env).bind rng := by
  rw [rng_eq]
  simp only [evI]
  rfl
@[simp] theorem evI_enum : evI cf mk (.itEnum a) env = (evE cf mk a env).bind fun r => match r.1.items? with
    | some ds => .ok (enumFrom 0 ds, r.2)
    | none => .stuck := by
  first | exact nr rfl | (simp only [evE, evA, evV, evC, evI, evS]; done) | (simp only [evE, evA, evV, evC, evI, evS]; rfl)
@[simp] theorem evS_skip : evS cf mk .skip env = .nx env := by
  first | exact nr rfl | (simp only [evE, evA, evV, evC, evI, evS]; done) | (simp only [evE, evA, evV, evC, evI, evS]; rfl)
@[simp] theorem evS_seq : evS cf mk (.seq s t) env = (evS cf mk s env).andThen (evS cf mk t) := by
  first | exact nr rfl | (simp only [evE, evA, evV, evC, evI, evS]; done) | (simp only [evE, evA, evV, evC, evI, evS]; rfl)
@[simp] theorem evS_asg (i : Nat) : evS cf mk (.asg i e) env = onR (evE cf mk e env) fun d env' => .nx (setV env' i (freshW e d) d) := by
  first | exact nr rfl | (simp only [evE, evA, evV, evC, evI, evS]; done) | (simp only [evE, evA, evV, evC, evI, evS]; rfl)
@[simp] theorem evS_asgT : evS cf mk (.asgT a e) env = onR (evE cf mk e env) fun d env' => onO (bindT a d env') .nx := by
  first | exact nr rfl | (simp only [evE, evA, evV, evC, evI, evS]; done) | (simp only [evE, evA, evV, evC, evI, evS]; rfl)
@[simp] theorem evS_par (i j : Nat) : evS cf mk (.par i j a b) env = onR (evE cf mk a env) fun x e1 => onR (evE cf mk b e1) fun y e2 => .nx (setV (setV e2 i (freshW a x) x) j (freshW b y) y) := by
  first | exact nr rfl | (simp only [evE, evA, evV, evC, evI, evS]; done) | (simp only [evE, evA, evV, evC, evI, evS]; rfl)
@[simp] theorem evS_par3 (i j k : Nat) : evS cf mk (.par3 i j k a b c) env = onR (evE cf mk a env) fun x e1 => onR (evE cf mk b e1) fun y e2 => onR (evE cf mk c e2) fun z e3 => .nx (setV (setV (setV e3 i (freshW a x) x) j (freshW b y) y) k (freshW c z) z) := by
  first | exact nr rfl | (simp only [evE, evA, evV, evC, evI, evS]; done) | (simp only [evE, evA, evV, evC, evI, evS]; rfl)
@[simp] theorem evS_ret : evS cf mk (.ret e) env = onR (evE cf mk e env) fun d env' => .ret (freshW e d) d env' := by
  first | exact nr rfl | (simp only [evE, evA, evV, evC, evI, evS]; done) | (simp only [evE, evA, evV, evC, evI, evS]; rfl)
@[simp] theorem evS_retN : evS cf mk .retN env = .ret .frz .non env := by
  first | exact nr rfl | (simp only [evE, evA, evV, evC, evI, evS]; done) | (simp only [evE, evA, evV, evC, evI, evS]; rfl)
@[simp] theorem evS_ife : evS cf mk (.ife c s t) env = onR (evE cf mk c env) fun d env' => match d with
    | .bl true => evS cf mk s env'
    | .bl false => evS cf mk t env'
    | _ => .stuck := by
  first | exact nr rfl | (simp only [evE, evA, evV, evC, evI, evS]; done) | (simp only [evE, evA, evV, evC, evI, evS]; rfl)
@[simp] theorem evS_for : evS cf mk (.forIn a b s) env = onR (evI cf mk b env) fun ds env' => forL (trn cf mk a s) ds env' := by
  first | exact nr rfl | (simp only [evE, evA, evV, evC, evI, evS]; done) | (simp only [evE, evA, evV, evC, evI, evS]; rfl)
@[simp] theorem evS_whil : evS cf mk (.whil c s) env = whileL (evE cf mk c) (evS cf mk s) tMost env := by
  rw [tMost_eq]
  simp only [evS]
@[simp] theorem evS_expr : evS cf mk (.expr e) env = onR (evE cf mk e env) fun _ env' => .nx env' := by
  first | exact nr rfl | (simp only [evE, evA, evV, evC, evI, evS]; done) | (simp only [evE, evA, evV, evC, evI, evS]; rfl)
@[simp] theorem evS_setIx (i : Nat) (fs : List Nat) : evS cf mk (.setIx i fs a e) env = onR (evE cf mk e env) fun x e1 => if (getV e1 i).isSome then onR (evE cf mk a e1) fun k e2 => onO (storeIx e2 i fs k x) .nx else .stuck := by
  first | exact nr rfl | (simp only [evE, evA, evV, evC, evI, evS]; done) | (simp only [evE, evA, evV, evC, evI, evS]; rfl)
@[simp] theorem evS_setIxT (i j : Nat) : evS cf mk (.setIxT i a j e) env = onR (evE cf mk e env) fun p e1 => match p with
    | .tup [x, y] => if (getV e1 i).isSome then onR (evE cf mk a e1) fun k e2 => onO (storeIx e2 i [] k x) fun e3 => .nx (setV e3 j .frz y) else .stuck
    | _ => .stuck := by
  first | exact nr rfl | (simp only [evE, evA, evV, evC, evI, evS]; done) | (simp only [evE, evA, evV, evC, evI, evS]; rfl)
@[simp] theorem evS_append (i : Nat) (fs : List Nat) : evS cf mk (.append i fs e) env = match wP env i fs, readP env i fs with
    | some (.own .frz), some (.lst _) => onR (evE cf mk e env) fun x e1 => match wP e1 i fs, readP e1 i fs with
      | some (.own .frz), some (.lst ds) => if ds.length < lim then onO (putP e1 i fs (.lst (ds ++ [x]))) .nx else .stuck
      | _, _ => .stuck
    | _, _ => .stuck := by
  first | exact nr rfl | (simp only [evE, evA, evV, evC, evI, evS]; done) | (simp only [evE, evA, evV, evC, evI, evS]; rfl)
@[simp] theorem evS_extend (i : Nat) (fs : List Nat) : evS cf mk (.extend i fs e) env = match wP env i fs, readP env i fs with
    | some (.own .frz), some (.lst _) => onR (evE cf mk e env) fun x e1 => match wP e1 i fs, readP e1 i fs, x, freshW e x with
      | some (.own .frz), some (.lst ds), .lst ys, .own .frz => if ds.length + ys.length ≤ lim then onO (putP e1 i fs (.lst (ds ++ ys))) .nx else .stuck
      | _, _, _, _ => .stuck
    | _, _ => .stuck := by
  first | exact nr rfl | (simp only [evE, evA, evV, evC, evI, evS]; done) | (simp only [evE, evA, evV, evC, evI, evS]; rfl)
end
section
variable {env : Env} {a b c as bs e : C} {d : D} {ds : List D}
@[simp] theorem getV_eq (i : Nat) : getV env i = match env[i]? with | some (some (_, d)) => some d | _ => none := nr rfl
@[simp] theorem setV_eq (i : Nat) (w : W) (d : D) : setV env i w d = env.set i (some (w, d)) := nr rfl
@[simp] theorem frzAt_eq (i : Nat) : frzAt env i = match env[i]? with
  | some (some (.frz, _)) => env
  | some (some (_, d)) => env.set i (some (.frz, d))
  | _ => env := nr rfl
@[simp] theorem readB_eq (i : Nat) : readB env i [] = match env[i]? with
  | some (some (w, d)) => if w.flat then some d else none
  | _ => none := by
  unfold readB
  rcases env[i]? with _ | _ | ⟨w, d⟩ <;> rfl
@[simp] theorem readP_eq (i : Nat) : readP env i [] = match env[i]? with | some (some (_, d)) => some d | _ => none := by
  unfold readP getV
  rcases env[i]? with _ | _ | ⟨w, d⟩ <;> rfl
@[simp] theorem wP_eq (i : Nat) : wP env i [] = match env[i]? with
  | some (some (w, _)) => some w
  | _ => none := by
  unfold wP
  rcases env[i]? with _ | _ | ⟨w, d⟩ <;> rfl
@[simp] theorem putP_eq (i : Nat) (x : D) : putP env i [] x = match env[i]? with
  | some (some (w, _)) => some (env.set i (some (w, x)))
  | _ => none := by
  unfold putP
  rcases env[i]? with _ | _ | ⟨w, d⟩ <;> rfl
@[simp] theorem readIO_eq (i : Nat) (w : W) : readIO env i w = match env[i]? with
  | some (some (w', d)) => if W.same w' w then some d else none
  | _ => none := nr rfl
@[simp] theorem flat_frz : W.flat .frz = true := nr rfl
@[simp] theorem flat_own : W.flat (.own .frz) = true := nr rfl
@[simp] theorem isFrz_frz : W.isFrz .frz = true := nr rfl
@[simp] theorem isFrz_own (w : W) : W.isFrz (.own w) = false := nr rfl
@[simp] theorem same_frz : W.same .frz .frz = true := nr rfl
@[simp] theorem same_own : W.same (.own .frz) (.own .frz) = true := nr rfl
@[simp] theorem same_fo : W.same .frz (.own .frz) = false := nr rfl
@[simp] theorem same_of : W.same (.own .frz) .frz = false := nr rfl
@[simp] theorem wipeE_nil : wipeE env [] = env := nr rfl
@[simp] theorem wipeE_cons (i : Nat) (r : List Nat) : wipeE env (i :: r) = (wipeE env r).set i none := nr rfl
@[simp] theorem backE_nil (env0 : Env) : backE env0 env [] = env := nr rfl
@[simp] theorem backE_cons (env0 : Env) (i : Nat) (r : List Nat) : backE env0 env (i :: r) = (backE env0 env r).set i ((env0[i]?).getD none) := nr rfl
@[simp] theorem ioSet_io (i : Nat) (w : W) (d : D) (ds : List D) (r : C) : ioSet (.cons (.io i w) r) (d :: ds) env = ioSet r ds (setV env i w d) := by simp only [ioSet]
@[simp] theorem ioSet_nil (ds : List D) : ioSet .nil ds env = env := by simp only [ioSet]
@[simp] theorem ioSet_var (i : Nat) : ioSet (.cons (.var i) bs) (d :: ds) env = ioSet bs ds env := by simp only [ioSet]
@[simp] theorem ioSet_lit (x : D) : ioSet (.cons (.lit x) bs) (d :: ds) env = ioSet bs ds env := by simp only [ioSet]
@[simp] theorem ioSet_prim (q : P) : ioSet (.cons (.prim q as) bs) (d :: ds) env = ioSet bs ds env := by simp only [ioSet]
@[simp] theorem ioSet_sl  : ioSet (.cons (.sl a b c) bs) (d :: ds) env = ioSet bs ds env := by simp only [ioSet]
@[simp] theorem ioSet_and  : ioSet (.cons (.and a b) bs) (d :: ds) env = ioSet bs ds env := by simp only [ioSet]
@[simp] theorem ioSet_or  : ioSet (.cons (.or a b) bs) (d :: ds) env = ioSet bs ds env := by simp only [ioSet]
@[simp] theorem ioSet_ite  : ioSet (.cons (.ite c a b) bs) (d :: ds) env = ioSet bs ds env := by simp only [ioSet]
@[simp] theorem ioSet_chain (p q : P) : ioSet (.cons (.chain p q a b c) bs) (d :: ds) env = ioSet bs ds env := by simp only [ioSet]
@[simp] theorem ioSet_tup  : ioSet (.cons (.tup as) bs) (d :: ds) env = ioSet bs ds env := by simp only [ioSet]
@[simp] theorem ioSet_lst  : ioSet (.cons (.lst as) bs) (d :: ds) env = ioSet bs ds env := by simp only [ioSet]
@[simp] theorem ioSet_dct  : ioSet (.cons (.dct as) bs) (d :: ds) env = ioSet bs ds env := by simp only [ioSet]
@[simp] theorem ioSet_get  : ioSet (.cons (.get a b c) bs) (d :: ds) env = ioSet bs ds env := by simp only [ioSet]
@[simp] theorem ioSet_call (f : Nat) (w : W) : ioSet (.cons (.call f w as) bs) (d :: ds) env = ioSet bs ds env := by simp only [ioSet]
@[simp] theorem ioSet_callM (f : Nat) (w0 w : W) : ioSet (.cons (.callM f w0 w a as) bs) (d :: ds) env = ioSet bs ds env := by simp only [ioSet]
@[simp] theorem ioSet_callK (f : Nat) (ks : List Nat) : ioSet (.cons (.callK f ks as bs) bs) (d :: ds) env = ioSet bs ds env := by simp only [ioSet]
@[simp] theorem ioSet_comp (own : List Nat) : ioSet (.cons (.comp a b c e own) bs) (d :: ds) env = ioSet bs ds env := by simp only [ioSet]
@[simp] theorem ioSet_pop (i : Nat) (fs : List Nat) : ioSet (.cons (.pop i fs) bs) (d :: ds) env = ioSet bs ds env := by simp only [ioSet]
@[simp] theorem ioSet_popAt (i : Nat) (fs : List Nat) : ioSet (.cons (.popAt i fs a) bs) (d :: ds) env = ioSet bs ds env := by simp only [ioSet]
@[simp] theorem bindT_name (i : Nat) (d : D) : bindT (.tgName i) d env = some (setV env i .frz d) := by simp only [bindT]
@[simp] theorem bindT_tup (ts : C) (ds : List D) : bindT (.tgTup ts) (.tup ds) env = bindTs ts ds env := by simp only [bindT]
@[simp] theorem bindTs_nil : bindTs .nil [] env = some env := by simp only [bindTs]
@[simp] theorem bindTs_cons (t ts : C) (d : D) (ds : List D) : bindTs (.cons t ts) (d :: ds) env = (bindT t d env).bind fun env' => bindTs ts ds env' := by simp only [bindTs]
@[simp] theorem compT_eq (tc te : Env → R Env (D × Env)) (tg : C) (own : List Nat) (d : D) (e : Env) : compT tc te tg own d e = ((R.of (bindT tg d e)).bind fun e1 => (tc e1).bind fun t => match t.1 with
  | .bl true => (te t.2).bind fun x => .ok (some x.1, wipeE x.2 own)
  | .bl false => .ok (none, wipeE t.2 own)
  | _ => .stuck) := nr rfl
@[simp] theorem calm_ok {ε α : Type} (a : α) : (R.ok a : R ε α).calm = .ok a := nr rfl
@[simp] theorem isNil_nil : C.nil.isNil = true := nr rfl
@[simp] theorem isNil_lit (d : D) : (C.lit d).isNil = false := nr rfl
@[simp] theorem isNil_var (d : Nat) : (C.var d).isNil = false := nr rfl
@[simp] theorem isNil_prim (q : P) : (C.prim q a).isNil = false := nr rfl
@[simp] theorem isNil_call (f : Nat) (w : W) : (C.call f w a).isNil = false := nr rfl
@[simp] theorem toI_int (i : Int) : toI (.int i, env) = .ok (some i, env) := nr rfl
@[simp] theorem ofI_some (i : Int) : ofI (some i) = .int i := nr rfl
@[simp] theorem ofI_none : ofI none = .non := nr rfl
@[simp] theorem optI_int (i : Int) : optI (.int i) = some (some i) := nr rfl
@[simp] theorem optI_non : optI .non = some none := nr rfl
@[simp] theorem permL_nil {α : Type} (l : List α) : permL l [] = some [] := nr rfl
@[simp] theorem permL_cons {α : Type} (l : List α) (k : Nat) (r : List Nat) : permL l (k :: r) = (l[k]?).bind fun a => (permL l r).map (a :: ·) := nr rfl
@[simp] theorem outs_nil : outsOf [] [] env = some [] := by simp only [outsOf]
@[simp] theorem outs_frz (ws : List W) (a : D) (as : List D) : outsOf (.frz :: ws) (a :: as) env = (outsOf ws as env.tail).map (a :: ·) := by simp only [outsOf]
@[simp] theorem outs_own (w w' : W) (ws : List W) (a d : D) (as : List D) : outsOf (.own w :: ws) (a :: as) (some (w', d) :: env) = if W.same (.own w) w' then (outsOf ws as env).map (d :: ·) else none := by simp only [outsOf]
@[simp] theorem storeIx_lst {i : Nat} {n : Int} {x : D} : storeIx env i [] (.int n) x = match env[i]? with
  | some (some (.own .frz, .lst ds)) => (seqIx n ds.length).bind fun m => some (env.set i (some (.own .frz, .lst (ds.set m x))))
  | some (some (.own .frz, .dct ks vs)) => if decide (ks.length < lim) then (let p := putK ks vs (.int n) x; some (env.set i (some (.own .frz, .dct p.1 p.2)))) else none
  | _ => none := by
  unfold storeIx
  rw [wP_eq, readP_eq]
  rcases h : env[i]? with _ | _ | ⟨w, d⟩
  · rfl
  · rfl
  · rcases w with _ | w | _
    · rfl
    · rcases w with _ | w | _
      · cases d <;> first | rfl | (simp only [putP_eq, h]; done) | (simp only [putP_eq, h, D.keyS, Bool.true_and])
      · cases d <;> rfl
      · cases d <;> rfl
    · rfl
end
@[simp] theorem freshW_prim (q : P) (as : C) (d : D) : freshW (.prim q as) d = freshP q d := nr rfl
@[simp] theorem freshW_var (i : Nat) (d : D) : freshW (.var i) d = .frz := nr rfl
@[simp] theorem freshW_lit (i d : D) : freshW (.lit i) d = .frz := nr rfl
@[simp] theorem freshW_tup (as : C) (d : D) : freshW (.tup as) d = .frz := nr rfl
@[simp] theorem freshW_lst (as : C) (d : D) : freshW (.lst as) d = .own .frz := nr rfl
@[simp] theorem freshW_dct (as : C) (d : D) : freshW (.dct as) d = .own .frz := nr rfl
@[simp] theorem freshW_comp (a b c e : C) (l : List Nat) (d : D) : freshW (.comp a b c e l) d = .own .frz := nr rfl
@[simp] theorem freshW_call (f : Nat) (w : W) (as : C) (d : D) : freshW (.call f w as) d = w := nr rfl
@[simp] theorem freshW_callK (f : Nat) (ks : List Nat) (as bs : C) (d : D) : freshW (.callK f ks as bs) d = .frz := nr rfl
@[simp] theorem freshW_and (a b : C) (d : D) : freshW (.and a b) d = .frz := nr rfl
@[simp] theorem freshW_or (a b : C) (d : D) : freshW (.or a b) d = .frz := nr rfl
@[simp] theorem freshW_ite (a b c : C) (d : D) : freshW (.ite a b c) d = .frz := nr rfl
@[simp] theorem freshW_pop (i : Nat) (fs : List Nat) (d : D) : freshW (.pop i fs) d = .frz := nr rfl
@[simp] theorem freshW_sl (a b c : C) (d : D) : freshW (.sl a b c) d = freshP .slice d := nr rfl
theorem freshP_frz {q : P} (h : q.fresh = false) (d : D) : freshP q d = .frz := by cases d <;> simp [freshP, h]
@[simp] theorem freshP_sub (d : D) : freshP .sub d = .frz := freshP_frz rfl d
@[simp] theorem freshP_mul (d : D) : freshP .mul d = .frz := freshP_frz rfl d
@[simp] theorem freshP_fdiv (d : D) : freshP .fdiv d = .frz := freshP_frz rfl d
@[simp] theorem freshP_mod (d : D) : freshP .mod d = .frz := freshP_frz rfl d
@[simp] theorem freshP_pow (d : D) : freshP .pow d = .frz := freshP_frz rfl d
@[simp] theorem freshP_neg (d : D) : freshP .neg d = .frz := freshP_frz rfl d
@[simp] theorem freshP_not (d : D) : freshP .not d = .frz := freshP_frz rfl d
@[simp] theorem freshP_eq (d : D) : freshP .eq d = .frz := freshP_frz rfl d
@[simp] theorem freshP_ne (d : D) : freshP .ne d = .frz := freshP_frz rfl d
@[simp] theorem freshP_lt (d : D) : freshP .lt d = .frz := freshP_frz rfl d
@[simp] theorem freshP_le (d : D) : freshP .le d = .frz := freshP_frz rfl d
@[simp] theorem freshP_gt (d : D) : freshP .gt d = .frz := freshP_frz rfl d
@[simp] theorem freshP_ge (d : D) : freshP .ge d = .frz := freshP_frz rfl d
@[simp] theorem freshP_isN (d : D) : freshP .isN d = .frz := freshP_frz rfl d
@[simp] theorem freshP_notN (d : D) : freshP .notN d = .frz := freshP_frz rfl d
@[simp] theorem freshP_isin (d : D) : freshP .isin d = .frz := freshP_frz rfl d
@[simp] theorem freshP_notin (d : D) : freshP .notin d = .frz := freshP_frz rfl d
@[simp] theorem freshP_item (d : D) : freshP .item d = .frz := freshP_frz rfl d
@[simp] theorem freshP_len (d : D) : freshP .len d = .frz := freshP_frz rfl d
@[simp] theorem freshP_abs (d : D) : freshP .abs d = .frz := freshP_frz rfl d
@[simp] theorem freshP_int1 (d : D) : freshP .int1 d = .frz := freshP_frz rfl d
@[simp] theorem freshP_max2 (d : D) : freshP .max2 d = .frz := freshP_frz rfl d
@[simp] theorem freshP_min2 (d : D) : freshP .min2 d = .frz := freshP_frz rfl d
@[simp] theorem freshP_max1 (d : D) : freshP .max1 d = .frz := freshP_frz rfl d
@[simp] theorem freshP_min1 (d : D) : freshP .min1 d = .frz := freshP_frz rfl d
@[simp] theorem freshP_sum (d : D) : freshP .sum d = .frz := freshP_frz rfl d
@[simp] theorem freshP_all (d : D) : freshP .all d = .frz := freshP_frz rfl d
@[simp] theorem freshP_any (d : D) : freshP .any d = .frz := freshP_frz rfl d
@[simp] theorem freshP_tuple (d : D) : freshP .tuple d = .frz := freshP_frz rfl d
@[simp] theorem freshP_divmod (d : D) : freshP .divmod d = .frz := freshP_frz rfl d
@[simp] theorem freshP_sum0 (d : D) : freshP .sum0 d = .frz := freshP_frz rfl d
@[simp] theorem freshP_repr (d : D) : freshP .repr d = .frz := freshP_frz rfl d
@[simp] theorem freshP_isa (ts : List Ty) (d : D) : freshP (.isa ts) d = .frz := freshP_frz rfl d
@[simp] theorem freshP_add_lst (ds : List D) : freshP .add (.lst ds) = .own .frz := nr rfl
@[simp] theorem freshP_add_dct (ks vs : List D) : freshP .add (.dct ks vs) = .own .frz := nr rfl
@[simp] theorem freshP_slice_lst (ds : List D) : freshP .slice (.lst ds) = .own .frz := nr rfl
@[simp] theorem freshP_slice_dct (ks vs : List D) : freshP .slice (.dct ks vs) = .own .frz := nr rfl
@[simp] theorem freshP_list_lst (ds : List D) : freshP .list (.lst ds) = .own .frz := nr rfl
@[simp] theorem freshP_list_dct (ks vs : List D) : freshP .list (.dct ks vs) = .own .frz := nr rfl
@[simp] theorem freshP_sorted_lst (ds : List D) : freshP .sorted (.lst ds) = .own .frz := nr rfl
@[simp] theorem freshP_sorted_dct (ks vs : List D) : freshP .sorted (.dct ks vs) = .own .frz := nr rfl
@[simp] theorem freshP_dictP_lst (ds : List D) : freshP .dictP (.lst ds) = .own .frz := nr rfl
@[simp] theorem freshP_dictP_dct (ks vs : List D) : freshP .dictP (.dct ks vs) = .own .frz := nr rfl
@[simp] theorem freshP_dictE_lst (ds : List D) : freshP .dictE (.lst ds) = .own .frz := nr rfl
@[simp] theorem freshP_dictE_dct (ks vs : List D) : freshP .dictE (.dct ks vs) = .own .frz := nr rfl
@[simp] theorem freshP_dictC_lst (ds : List D) : freshP .dictC (.lst ds) = .own .frz := nr rfl
@[simp] theorem freshP_dictC_dct (ks vs : List D) : freshP .dictC (.dct ks vs) = .own .frz := nr rfl
@[simp] theorem freshP_rev_lst (ds : List D) : freshP .rev (.lst ds) = .own .frz := nr rfl
@[simp] theorem freshP_rev_dct (ks vs : List D) : freshP .rev (.dct ks vs) = .own .frz := nr rfl
@[simp] theorem freshP_dict1_lst (ds : List D) : freshP .dict1 (.lst ds) = .own .frz := nr rfl
@[simp] theorem freshP_dict1_dct (ks vs : List D) : freshP .dict1 (.dct ks vs) = .own .frz := nr rfl
@[simp] theorem freshP_add_int (i : Int) : freshP .add (.int i) = .frz := nr rfl
@[simp] theorem freshP_add_tup (i : List D) : freshP .add (.tup i) = .frz := nr rfl
@[simp] theorem freshP_slice_tup (i : List D) : freshP .slice (.tup i) = .frz := nr rfl
@[simp] theorem run_add (a b : D) : P.run .add [a, b] = addD a b := nr rfl
@[simp] theorem run_sub (a b : D) : P.run .sub [a, b] = subD a b := nr rfl
@[simp] theorem run_mul (a b : D) : P.run .mul [a, b] = mulD a b := nr rfl
@[simp] theorem run_fdiv (a b : D) : P.run .fdiv [a, b] = fdivD a b := nr rfl
@[simp] theorem run_mod (a b : D) : P.run .mod [a, b] = modD a b := nr rfl
@[simp] theorem run_pow (a b : D) : P.run .pow [a, b] = powD a b := nr rfl
@[simp] theorem run_isin (a b : D) : P.run .isin [a, b] = isinD false a b := nr rfl
@[simp] theorem run_notin (a b : D) : P.run .notin [a, b] = isinD true a b := nr rfl
@[simp] theorem run_item (a b : D) : P.run .item [a, b] = itemD a b := nr rfl
@[simp] theorem run_max2 (a b : D) : P.run .max2 [a, b] = max2D a b := nr rfl
@[simp] theorem run_min2 (a b : D) : P.run .min2 [a, b] = min2D a b := nr rfl
@[simp] theorem run_divmod (a b : D) : P.run .divmod [a, b] = divmodD a b := nr rfl
@[simp] theorem run_neg (a : D) : P.run .neg [a] = negD a := nr rfl
@[simp] theorem run_not (a : D) : P.run .not [a] = notD a := nr rfl
@[simp] theorem run_isN (a : D) : P.run .isN [a] = isND a := nr rfl
@[simp] theorem run_notN (a : D) : P.run .notN [a] = notND a := nr rfl
@[simp] theorem run_len (a : D) : P.run .len [a] = lenD a := nr rfl
@[simp] theorem run_abs (a : D) : P.run .abs [a] = absD a := nr rfl
@[simp] theorem run_int1 (a : D) : P.run .int1 [a] = int1D a := nr rfl
@[simp] theorem run_max1 (a : D) : P.run .max1 [a] = maxD a := nr rfl
@[simp] theorem run_min1 (a : D) : P.run .min1 [a] = minD a := nr rfl
@[simp] theorem run_sum (a : D) : P.run .sum [a] = sumD a := nr rfl
@[simp] theorem run_all (a : D) : P.run .all [a] = allD a := nr rfl
@[simp] theorem run_any (a : D) : P.run .any [a] = anyD a := nr rfl
@[simp] theorem run_tuple (a : D) : P.run .tuple [a] = tupleD a := nr rfl
@[simp] theorem run_list (a : D) : P.run .list [a] = listD a := nr rfl
@[simp] theorem run_sorted (a : D) : P.run .sorted [a] = sortedD a := nr rfl
@[simp] theorem run_dictP (a : D) : P.run .dictP [a] = dictPD a := nr rfl
@[simp] theorem run_dictE (a : D) : P.run .dictE [a] = dictED a := nr rfl
@[simp] theorem run_dictC (a : D) : P.run .dictC [a] = dictCD a := nr rfl
@[simp] theorem run_sum0 (a : D) : P.run .sum0 [a] = sumD a := nr rfl
@[simp] theorem run_rev (a : D) : P.run .rev [a] = revD a := nr rfl
@[simp] theorem run_repr (a : D) : P.run .repr [a] = reprD a := nr rfl
@[simp] theorem run_dict1 (a : D) : P.run .dict1 [a] = dict1D a := nr rfl
@[simp] theorem run_isa (ts : List Ty) (a : D) : P.run (.isa ts) [a] = isaD ts a := nr rfl
@[simp] theorem run_eq (a b : D) : P.run .eq [a, b] = (eqD a b).map .bl := nr rfl
@[simp] theorem run_ne (a b : D) : P.run .ne [a, b] = (eqD a b).map fun c => .bl (!c) := nr rfl
@[simp] theorem run_lt (i j : Int) : P.run .lt [.int i, .int j] = some (.bl (decide (i < j))) := nr rfl
@[simp] theorem run_le (i j : Int) : P.run .le [.int i, .int j] = some (.bl (decide (i ≤ j))) := nr rfl
@[simp] theorem run_gt (i j : Int) : P.run .gt [.int i, .int j] = some (.bl (decide (j < i))) := nr rfl
@[simp] theorem run_ge (i j : Int) : P.run .ge [.int i, .int j] = some (.bl (decide (j ≤ i))) := nr rfl
@[simp] theorem addD_int (i j : Int) : addD (.int i) (.int j) = some (.int (i + j)) := nr rfl
@[simp] theorem subD_int (i j : Int) : subD (.int i) (.int j) = some (.int (i - j)) := nr rfl
@[simp] theorem mulD_int (i j : Int) : mulD (.int i) (.int j) = if mulOk i j then some (.int (i * j)) else none := nr rfl
@[simp] theorem fdivD_int (i j : Int) : fdivD (.int i) (.int j) = if decide (0 < j) && decide (j < 1073741824) then some (.int (i / j)) else none := nr rfl
@[simp] theorem modD_int (i j : Int) : modD (.int i) (.int j) = if 0 < j then some (.int (i % j)) else none := nr rfl
@[simp] theorem divmodD_int (i j : Int) : divmodD (.int i) (.int j) = if decide (0 < j) && decide (j < 1073741824) then some (.tup [.int (i / j), .int (i % j)]) else none := nr rfl
@[simp] theorem negD_int (i : Int) : negD (.int i) = some (.int (-i)) := nr rfl
@[simp] theorem notD_bl (b : Bool) : notD (.bl b) = some (.bl (!b)) := nr rfl
@[simp] theorem absD_int (i : Int) : absD (.int i) = some (.int (if i < 0 then -i else i)) := nr rfl
@[simp] theorem int1D_int (i : Int) : int1D (.int i) = some (.int i) := nr rfl
@[simp] theorem max2D_int (i j : Int) : max2D (.int i) (.int j) = some (.int (if j > i then j else i)) := nr rfl
@[simp] theorem min2D_int (i j : Int) : min2D (.int i) (.int j) = some (.int (if j < i then j else i)) := nr rfl
@[simp] theorem isND_eq (a : D) : isND a = some (.bl a.isNon) := nr rfl
@[simp] theorem notND_eq (a : D) : notND a = some (.bl (!a.isNon)) := nr rfl
@[simp] theorem isNon_non : D.isNon .non = true := nr rfl
@[simp] theorem isNon_int (i : Int) : D.isNon (.int i) = false := nr rfl
@[simp] theorem isNon_bl (i : Bool) : D.isNon (.bl i) = false := nr rfl
@[simp] theorem isNon_str (i : Str) : D.isNon (.str i) = false := nr rfl
@[simp] theorem isNon_tup (i : List D) : D.isNon (.tup i) = false := nr rfl
@[simp] theorem isNon_lst (i : List D) : D.isNon (.lst i) = false := nr rfl
@[simp] theorem lenD_tup (ds : List D) : lenD (.tup ds) = some (.int ds.length) := nr rfl
@[simp] theorem lenD_lst (ds : List D) : lenD (.lst ds) = some (.int ds.length) := nr rfl
@[simp] theorem tupleD_lst (ds : List D) : tupleD (.lst ds) = some (.tup ds) := nr rfl
@[simp] theorem tupleD_tup (ds : List D) : tupleD (.tup ds) = some (.tup ds) := nr rfl
@[simp] theorem listD_lst (ds : List D) : listD (.lst ds) = some (.lst ds) := nr rfl
@[simp] theorem listD_tup (ds : List D) : listD (.tup ds) = some (.lst ds) := nr rfl
@[simp] theorem listD_dct (ks vs : List D) : listD (.dct ks vs) = some (.lst ks) := nr rfl
@[simp] theorem revD_lst (ds : List D) : revD (.lst ds) = some (.lst ds.reverse) := nr rfl
@[simp] theorem items_tup (ds : List D) : D.items? (.tup ds) = some ds := nr rfl
@[simp] theorem items_lst (ds : List D) : D.items? (.lst ds) = some ds := nr rfl
@[simp] theorem eqD_int (i j : Int) : eqD (.int i) (.int j) = some (decide (i = j)) := nr rfl
@[simp] theorem eqD_str (i j : Str) : eqD (.str i) (.str j) = some (decide (i = j)) := nr rfl
@[simp] theorem eqD_bl (i j : Bool) : eqD (.bl i) (.bl j) = some (decide (i = j)) := nr rfl
@[simp] theorem eqD_lst (i j : List D) : eqD (.lst i) (.lst j) = if D.okd 60 (.lst i) && D.okd 60 (.lst j) then some (D.eqv (.lst i) (.lst j)) else none := nr rfl
@[simp] theorem eqD_tup (i j : List D) : eqD (.tup i) (.tup j) = if D.okd 60 (.tup i) && D.okd 60 (.tup j) then some (D.eqv (.tup i) (.tup j)) else none := nr rfl
@[simp] theorem eqv_str (i j : Str) : D.eqv (.str i) (.str j) = decide (i = j) := by simp only [D.eqv]
@[simp] theorem eqv_int (i j : Int) : D.eqv (.int i) (.int j) = decide (i = j) := by simp only [D.eqv]
@[simp] theorem eqv_tup (i j : List D) : D.eqv (.tup i) (.tup j) = D.eqvs i j := by simp only [D.eqv]
@[simp] theorem eqv_lst (i j : List D) : D.eqv (.lst i) (.lst j) = D.eqvs i j := by simp only [D.eqv]
@[simp] theorem eqvs_nil : D.eqvs [] [] = true := by simp only [D.eqvs]
@[simp] theorem eqvs_cn (x : D) (xs : List D) : D.eqvs (x :: xs) [] = false := by simp only [D.eqvs]
@[simp] theorem eqvs_nc (x : D) (xs : List D) : D.eqvs [] (x :: xs) = false := by simp only [D.eqvs]
@[simp] theorem okd_int (n : Nat) (i : Int) : D.okd n (.int i) = true := by cases n <;> simp only [D.okd]
@[simp] theorem okd_non (n : Nat) : D.okd n .non = true := by cases n <;> simp only [D.okd]
@[simp] theorem okd_bl (n : Nat) (b : Bool) : D.okd n (.bl b) = true := by cases n <;> simp only [D.okd]
@[simp] theorem okd_str (n : Nat) (x : Str) : D.okd n (.str x) = PyData.strOk x := by cases n <;> simp only [D.okd]
@[simp] theorem okd_tup (n : Nat) (ds : List D) : D.okd (n + 1) (.tup ds) = D.okds n ds := by simp only [D.okd]
@[simp] theorem okd_lst (n : Nat) (ds : List D) : D.okd (n + 1) (.lst ds) = D.okds n ds := by simp only [D.okd]
@[simp] theorem okds_nil (n : Nat) : D.okds n [] = true := by simp only [D.okds]
@[simp] theorem okds_cons (n : Nat) (d : D) (ds : List D) : D.okds n (d :: ds) = (D.okd n d && D.okds n ds) := by simp only [D.okds]
theorem okds_all {n : Nat} : ∀ {ds : List D}, (∀ d ∈ ds, D.okd n d = true) → D.okds n ds = true
  | [], _ => by simp
  | d :: r, h => by rw [okds_cons, h d (by simp), okds_all fun x hx => h x (by simp [hx])]; rfl
@[simp] theorem scalar_str (x : Str) : D.scalar (.str x) = true := nr rfl
@[simp] theorem scalar_int (x : Int) : D.scalar (.int x) = true := nr rfl
@[simp] theorem isinD_tup (n : Bool) (a : D) (ds : List D) : isinD n a (.tup ds) = if D.scalar a && ds.all D.scalar then some (.bl (n != ds.any fun y => D.eqv y a)) else none := by cases a <;> rfl
@[simp] theorem keyS_int (i : Int) : D.keyS (.int i) = true := nr rfl
@[simp] theorem keyS_str (i : Str) : D.keyS (.str i) = true := nr rfl
@[simp] theorem same_int (i j : Int) : D.same (.int i) (.int j) = decide (i = j) := by simp only [D.same]
@[simp] theorem same_str (i j : Str) : D.same (.str i) (.str j) = decide (i = j) := by simp only [D.same]
@[simp] theorem itemD_tup (ds : List D) (i : Int) : itemD (.tup ds) (.int i) = (seqIx i ds.length).bind fun k => ds[k]? := nr rfl
@[simp] theorem itemD_lst (ds : List D) (i : Int) : itemD (.lst ds) (.int i) = (seqIx i ds.length).bind fun k => ds[k]? := nr rfl
@[simp] theorem itemD_dct (ks vs : List D) (k : D) : itemD (.dct ks vs) k = if D.keyS k then (keyAt ks k).bind fun i => vs[i]? else none := nr rfl
theorem seqIx_nat {k n : Nat} (h : k < n) : seqIx (k : Int) n = some k := by
  unfold seqIx ixN
  rw [if_pos (by omega), if_pos (by omega), Int.toNat_natCast]
@[simp] theorem seqIx_eq (i : Int) (n : Nat) : seqIx i n = if 0 ≤ i then (if i < n then some i.toNat else none) else if -(n : Int) ≤ i then some (i + n).toNat else none := nr rfl
@[simp] theorem keyAt_nil (k : D) : keyAt [] k = none := nr rfl
@[simp] theorem keyAt_cons (x k : D) (xs : List D) : keyAt (x :: xs) k = if D.same x k then some 0 else (keyAt xs k).map (· + 1) := nr rfl
@[simp] theorem putAll_nil (ks vs us : List D) : putAll ks vs [] us = (ks, vs) := by simp only [putAll]
@[simp] theorem putAll_cons (ks vs r s : List D) (k v : D) : putAll ks vs (k :: r) (v :: s) = putAll (putK ks vs k v).1 (putK ks vs k v).2 r s := by simp only [putAll]
@[simp] theorem evens_nil : evens [] = some ([], []) := by simp only [evens]
@[simp] theorem evens_cons (k v : D) (r : List D) : evens (k :: v :: r) = (evens r).map fun p => (k :: p.1, v :: p.2) := by simp only [evens]
theorem ofString_inj {s t : String} : (Str.ofString s = Str.ofString t) ↔ s = t := by
  constructor
  · intro h
    rw [Str.ofString_eq_toList, Str.ofString_eq_toList] at h
    have h2 : s.toList.map Char.toNat = t.toList.map Char.toNat := by simpa using h
    have h3 : s.toList = t.toList := (List.map_inj_right fun a b e => Char.ext (UInt32.toNat_inj.mp e)).mp h2
    have := congrArg String.ofList h3
    rwa [String.ofList_toList, String.ofList_toList] at this
  · rintro rfl; rfl
theorem intsD_mp : ∀ l : List Int, intsD (l.map .int) = some l
  | [] => rfl
  | a :: r => by simp only [List.map_cons, intsD, intsD_mp r, Option.map_some]
theorem boolsD_mp : ∀ l : List Bool, boolsD (l.map .bl) = some l
  | [] => rfl
  | a :: r => by simp only [List.map_cons, boolsD, boolsD_mp r, Option.map_some]
theorem sumD_map (l : List Int) : sumD (.lst (l.map .int)) = some (.int l.sum) := by simp only [sumD, intsD_mp, Option.map_some]
theorem allD_map (l : List Bool) : allD (.lst (l.map .bl)) = some (.bl (l.all id)) := by simp only [allD, boolsD_mp, Option.map_some]
theorem anyD_map (l : List Bool) : anyD (.lst (l.map .bl)) = some (.bl (l.any id)) := by simp only [anyD, boolsD_mp, Option.map_some]
theorem maxD_map (i : Int) (l : List Int) : maxD (.lst ((i :: l).map .int)) = some (.int (maxI i l)) := by simp only [List.map_cons, maxD, intsD_mp, Option.map_some]
theorem minD_map (i : Int) (l : List Int) : minD (.lst ((i :: l).map .int)) = some (.int (minI i l)) := by simp only [List.map_cons, minD, intsD_mp, Option.map_some]
theorem sortedD_map (l : List Int) : sortedD (.lst (l.map .int)) = some (.lst ((sortI l).map .int)) := by simp only [sortedD, intsD_mp, Option.map_some]
/-! ### turns -/
theorem compL_map {α : Type} {turn : D → Env → R Env (Option D × Env)} {env : Env} (g f : α → D) : ∀ (xs : List α) (acc : List D), (∀ x ∈ xs, turn (g x) env = .ok (some (f x), env)) → acc.length + xs.length ≤ lim → compL turn (xs.map g) env acc = .ok (acc ++ xs.map f, env)
  | [], acc, _, _ => by simp [compL]
  | x :: r, acc, h, hl => by
    simp only [List.length_cons] at hl
    simp only [List.map_cons, compL, h x (by simp), R.bind_ok]
    rw [if_pos (by omega), compL_map g f r _ (fun y hy => h y (by simp [hy])) (by simp; omega)]
    simp
theorem compL_flt {α : Type} {turn : D → Env → R Env (Option D × Env)} {env : Env} (g : α → D) (f : α → Option D) : ∀ (xs : List α) (acc : List D), (∀ x ∈ xs, turn (g x) env = .ok (f x, env)) → acc.length + xs.length ≤ lim → compL turn (xs.map g) env acc = .ok (acc ++ xs.filterMap f, env)
  | [], acc, _, _ => by simp [compL]
  | x :: r, acc, h, hl => by
    simp only [List.length_cons] at hl
    simp only [List.map_cons, compL, h x (by simp), R.bind_ok]
    cases q : f x with
    | none =>
      simp only [List.filterMap_cons, q]
      exact compL_flt g f r acc (fun y hy => h y (by simp [hy])) (by omega)
    | some d =>
      simp only [List.filterMap_cons, q]
      rw [if_pos (by omega), compL_flt g f r _ (fun y hy => h y (by simp [hy])) (by simp; omega)]
      simp
/-- turns that change something besides -/
theorem compL_ex {α β ι : Type} {turn : D → Env → R Env (Option D × Env)} (g : α → D) (f : β → D) (E : ι → Env) (Q : α → β → Prop) : ∀ (xs : List α), (∀ x ∈ xs, ∀ i, ∃ y j, turn (g x) (E i) = .ok (some (f y), E j) ∧ Q x y) → ∀ (i : ι) (acc : List D), acc.length + xs.length ≤ lim → ∃ (ys : List β) (j : ι), compL turn (xs.map g) (E i) acc = .ok (acc ++ ys.map f, E j) ∧ ys.length = xs.length ∧ ∀ y ∈ ys, ∃ x ∈ xs, Q x y
  | [], _, i, acc, _ => ⟨[], i, by simp [compL]⟩
  | x :: r, h, i, acc, hl => by
    simp only [List.length_cons] at hl
    obtain ⟨y, j, e, q⟩ := h x (by simp) i
    obtain ⟨ys, k, e2, l2, q2⟩ := compL_ex g f E Q r (fun z hz => h z (by simp [hz])) j (acc ++ [f y]) (by simp; omega)
    refine ⟨y :: ys, k, ?_, by simp [l2], ?_⟩
    · simp only [List.map_cons, compL, e, R.bind_ok]
      rw [if_pos (by omega), e2]
      simp
    · intro z hz
      rcases List.mem_cons.mp hz with rfl | hz
      · exact ⟨x, by simp, q⟩
      · obtain ⟨x', hx', q'⟩ := q2 z hz
        exact ⟨x', by simp [hx'], q'⟩
theorem forL_fold {α σ ι : Type} {turn : D → Env → Out} (g : α → D) (E : σ → ι → Env) (step : σ → α → σ) : ∀ (xs : List α), (∀ x ∈ xs, ∀ s i, ∃ j, turn (g x) (E s i) = .nx (E (step s x) j)) → ∀ s i, ∃ j, forL turn (xs.map g) (E s i) = .nx (E (xs.foldl step s) j)
  | [], _, s, i => ⟨i, rfl⟩
  | x :: r, h, s, i => by
    obtain ⟨j, e⟩ := h x (by simp) s i
    obtain ⟨k, e2⟩ := forL_fold g E step r (fun y hy => h y (by simp [hy])) (step s x) j
    exact ⟨k, by simp only [List.map_cons, forL, e, turn_nx, e2, List.foldl_cons]⟩
theorem forL_inv {α ι : Type} {turn : D → Env → Out} (g : α → D) (E : ι → Env) : ∀ (xs : List α), (∀ x ∈ xs, ∀ i, ∃ j, turn (g x) (E i) = .nx (E j)) → ∀ i, ∃ j, forL turn (xs.map g) (E i) = .nx (E j)
  | [], _, i => ⟨i, rfl⟩
  | x :: r, h, i => by
    obtain ⟨j, e⟩ := h x (by simp) i
    obtain ⟨k, e2⟩ := forL_inv g E r (fun y hy => h y (by simp [hy])) j
    exact ⟨k, by simp only [List.map_cons, forL, e, turn_nx, e2]⟩
theorem filterMap_nn {α β : Type} : ∀ l : List α, l.filterMap (fun _ => (none : Option β)) = []
  | [] => rfl
  | _ :: r => by rw [List.filterMap_cons, filterMap_nn r]
theorem cf_run {tb : Tb} {k : Nat} {fc : FnC} (h : tb.fns[k]? = some fc) (n : Nat) : ∃ mk, ∀ args, cf tb (n + 1) k args = runF (cf tb n) mk fc args := by
  cases n with
  | zero => exact ⟨noCF, fun args => by simp only [cf, h]⟩
  | succ n => exact ⟨mkOf tb (cf tb n), fun args => by simp only [cf, h]⟩
end PV
end

section
set_option Elab.async false
set_option linter.all false
set_option maxRecDepth 100000
namespace K60
open PySem L2 PV
/-- worth 0:linear 1:values 2:total 3:v 4:many -/
def l0_0 : PV.S := (.seq (.asg 2 (.prim .add (.cons (.brw 2 []) (.cons (.prim .mul (.cons (.brw 4 []) (.cons (.prim .item (.cons (.brw 1 []) (.cons (.brw 3 []) .nil))) .nil))) .nil))))
    .skip)
def s0 : PV.S := (.seq (.asg 2 (.prim .item (.cons (.brw 0 []) (.cons (.lit (.int 0)) .nil))))
    (.seq (.forIn (.tgTup (.cons (.tgName 3) (.cons (.tgName 4) .nil))) (.itVal (.prim .item (.cons (.brw 0 []) (.cons (.lit (.int 1)) .nil)))) l0_0)
    (.seq (.ret (.var 2))
    .skip)))
/-- atom_holds 0:atom 1:values 2:told -/
def s1 : PV.S := (.seq (.asg 2 (.call 0 .frz (.cons (.prim .item (.cons (.brw 0 []) (.cons (.prim .neg (.cons (.lit (.int 1)) .nil)) .nil))) (.cons (.var 1) .nil))))
    (.seq (.ife (.prim .eq (.cons (.prim .item (.cons (.brw 0 []) (.cons (.lit (.int 0)) .nil))) (.cons (.lit (.str "le")) .nil))) (.seq (.ret (.prim .le (.cons (.brw 2 []) (.cons (.lit (.int 0)) .nil))))
    .skip) .skip)
    (.seq (.ret (.prim .eq (.cons (.prim .eq (.cons (.prim .mod (.cons (.brw 2 []) (.cons (.prim .item (.cons (.brw 0 []) (.cons (.lit (.int 1)) .nil))) .nil))) (.cons (.lit (.int 0)) .nil))) (.cons (.prim .eq (.cons (.prim .item (.cons (.brw 0 []) (.cons (.lit (.int 0)) .nil))) (.cons (.lit (.str "into")) .nil))) .nil))))
    .skip)))
/-- holds 0:formula 1:values 2:told 3:one -/
def s2 : PV.S := (.seq (.ife (.prim .isin (.cons (.prim .item (.cons (.brw 0 []) (.cons (.lit (.int 0)) .nil))) (.cons (.lit (.tup [(.str "le"), (.str "into"), (.str "off")])) .nil))) (.seq (.ret (.call 1 .frz (.cons (.var 0) (.cons (.var 1) .nil))))
    .skip) .skip)
    (.seq (.asg 2 (.comp (.tgName 3) (.itVal (.prim .item (.cons (.brw 0 []) (.cons (.lit (.int 1)) .nil)))) (.lit (.bl true)) (.call 2 .frz (.cons (.var 3) (.cons (.var 1) .nil))) [3]))
    (.seq (.ret (.ite (.prim .eq (.cons (.prim .item (.cons (.brw 0 []) (.cons (.lit (.int 0)) .nil))) (.cons (.lit (.str "and")) .nil))) (.prim .all (.cons (.brw 2 []) .nil)) (.prim .any (.cons (.brw 2 []) .nil))))
    .skip)))
/-- atoms_of 0:formula 1:found 2:left 3:one -/
def l3_0 : PV.S := (.seq (.asg 3 (.pop 2 []))
    (.seq (.ife (.prim .isin (.cons (.prim .item (.cons (.brw 3 []) (.cons (.lit (.int 0)) .nil))) (.cons (.lit (.tup [(.str "le"), (.str "into"), (.str "off")])) .nil))) (.seq (.append 1 [] (.var 3))
    .skip) (.seq (.ife (.prim .isin (.cons (.prim .item (.cons (.brw 3 []) (.cons (.lit (.int 0)) .nil))) (.cons (.tup (.cons (.lit (.str "and")) (.cons (.lit (.str "or")) .nil))) .nil))) (.seq (.extend 2 [] (.prim .rev (.cons (.prim .list (.cons (.prim .item (.cons (.brw 3 []) (.cons (.lit (.int 1)) .nil))) .nil)) .nil)))
    .skip) (.seq (.append 2 [] (.prim .item (.cons (.brw 3 []) (.cons (.lit (.int 2)) .nil))))
    .skip))
    .skip))
    .skip))
def s3 : PV.S := (.seq (.par 1 2 (.lst .nil) (.lst (.cons (.var 0) .nil)))
    (.seq (.whil (.prim .ne (.cons (.brw 2 []) (.cons (.lst .nil) .nil))) l3_0)
    (.seq (.ret (.var 1))
    .skip)))
/-- divided 0:number 1:by -/
def s4 : PV.S := (.seq (.ret (.ite (.prim .eq (.cons (.prim .mod (.cons (.brw 0 []) (.cons (.brw 1 []) .nil))) (.cons (.lit (.int 0)) .nil))) (.prim .fdiv (.cons (.brw 0 []) (.cons (.brw 1 []) .nil))) (.lit .non)))
    .skip)
/-- linear_reach 0:linear 1:v 2:many -/
def s5 : PV.S := (.seq (.ret (.tup (.cons (.prim .sum (.cons (.comp (.tgTup (.cons (.tgName 1) (.cons (.tgName 2) .nil))) (.itVal (.prim .item (.cons (.brw 0 []) (.cons (.lit (.int 1)) .nil)))) (.lit (.bl true)) (.prim .abs (.cons (.brw 2 []) .nil)) [1, 2]) .nil)) (.cons (.prim .abs (.cons (.prim .item (.cons (.brw 0 []) (.cons (.lit (.int 0)) .nil))) .nil)) .nil))))
    .skip)
/-- reach_by 0:value 1:some 2:one 3:factor 4:add -/
def s6 : PV.S := (.seq (.ife (.prim .eq (.cons (.prim .item (.cons (.brw 0 []) (.cons (.lit (.int 0)) .nil))) (.cons (.lit (.str "over")) .nil))) (.seq (.ret (.call 5 .frz (.cons (.prim .item (.cons (.brw 0 []) (.cons (.lit (.int 1)) .nil))) .nil)))
    .skip) .skip)
    (.seq (.asg 1 (.comp (.tgName 2) (.itVal (.prim .item (.cons (.brw 0 []) (.cons (.lit (.int 1)) .nil)))) (.lit (.bl true)) (.call 5 .frz (.cons (.var 2) .nil)) [2]))
    (.seq (.ife (.prim .eq (.cons (.brw 1 []) (.cons (.lst .nil) .nil))) (.seq (.ret (.tup (.cons (.lit (.int 0)) (.cons (.prim .item (.cons (.brw 0 []) (.cons (.lit (.int 2)) .nil))) .nil))))
    .skip) .skip)
    (.seq (.ret (.tup (.cons (.prim .max1 (.cons (.comp (.tgTup (.cons (.tgName 3) (.cons (.tgName 4) .nil))) (.itVal (.var 1)) (.lit (.bl true)) (.var 3) [3, 4]) .nil)) (.cons (.prim .add (.cons (.prim .max1 (.cons (.comp (.tgTup (.cons (.tgName 3) (.cons (.tgName 4) .nil))) (.itVal (.var 1)) (.lit (.bl true)) (.var 4) [3, 4]) .nil)) (.cons (.prim .item (.cons (.brw 0 []) (.cons (.lit (.int 3)) .nil))) .nil))) .nil))))
    .skip))))
/-- value_at 0:value 1:values 2:told 3:bound 4:kind 5:some 6:rest 7:period 8:by 9:one -/
def s7 : PV.S := (.seq (.ife (.prim .eq (.cons (.prim .item (.cons (.brw 0 []) (.cons (.lit (.int 0)) .nil))) (.cons (.lit (.str "over")) .nil))) (.seq (.ret (.call 4 .frz (.cons (.call 0 .frz (.cons (.prim .item (.cons (.brw 0 []) (.cons (.lit (.int 1)) .nil))) (.cons (.var 1) .nil))) (.cons (.prim .item (.cons (.brw 0 []) (.cons (.lit (.int 2)) .nil))) .nil))))
    .skip) .skip)
    (.seq (.asgT (.tgTup (.cons (.tgName 4) (.cons (.tgName 5) (.cons (.tgName 6) (.cons (.tgName 7) (.cons (.tgName 8) .nil)))))) (.var 0))
    (.seq (.ife (.prim .eq (.cons (.brw 5 []) (.cons (.tup .nil) .nil))) (.seq (.ret (.call 4 .frz (.cons (.var 6) (.cons (.var 8) .nil))))
    .skip) .skip)
    (.seq (.asg 2 (.comp (.tgName 9) (.itVal (.var 5)) (.lit (.bl true)) (.call 0 .frz (.cons (.var 9) (.cons (.var 1) .nil))) [9]))
    (.seq (.ife (.prim .eq (.cons (.brw 4 []) (.cons (.lit (.str "low")) .nil))) (.seq (.asg 3 (.prim .sub (.cons (.prim .min1 (.cons (.brw 2 []) .nil)) (.cons (.lit (.int 1)) .nil))))
    (.seq (.ret (.call 4 .frz (.cons (.prim .sub (.cons (.brw 3 []) (.cons (.prim .mod (.cons (.prim .sub (.cons (.brw 3 []) (.cons (.brw 6 []) .nil))) (.cons (.brw 7 []) .nil))) .nil))) (.cons (.var 8) .nil))))
    .skip)) .skip)
    (.seq (.asg 3 (.prim .add (.cons (.prim .max1 (.cons (.brw 2 []) .nil)) (.cons (.lit (.int 1)) .nil))))
    (.seq (.ret (.call 4 .frz (.cons (.prim .add (.cons (.brw 3 []) (.cons (.prim .mod (.cons (.prim .sub (.cons (.brw 6 []) (.cons (.brw 3 []) .nil))) (.cons (.brw 7 []) .nil))) .nil))) (.cons (.var 8) .nil))))
    .skip)))))))
/-- piece_at 0:plan 1:values 2:at 3:guard 4:value -/
def l8_0 : PV.S := (.seq (.ife (.call 2 .frz (.cons (.var 3) (.cons (.var 1) .nil))) (.seq (.ret (.var 2))
    .skip) .skip)
    .skip)
def s8 : PV.S := (.seq (.forIn (.tgTup (.cons (.tgName 2) (.cons (.tgTup (.cons (.tgName 3) (.cons (.tgName 4) .nil))) .nil))) (.itEnum (.var 0)) l8_0)
    (.seq (.ret (.lit .non))
    .skip))
/-- told_by 0:plan 1:values -/
def s9 : PV.S := (.seq (.ret (.call 7 .frz (.cons (.prim .item (.cons (.prim .item (.cons (.brw 0 []) (.cons (.call 8 .frz (.cons (.var 0) (.cons (.var 1) .nil))) .nil))) (.cons (.lit (.int 1)) .nil))) (.cons (.var 1) .nil))))
    .skip)
/-- plan_size 0:plan 1:guard 2:value -/
def s10 : PV.S := (.seq (.ret (.prim .sum (.cons (.comp (.tgTup (.cons (.tgName 1) (.cons (.tgName 2) .nil))) (.itVal (.var 0)) (.lit (.bl true)) (.prim .len (.cons (.call 3 .frz (.cons (.var 1) .nil)) .nil)) [1, 2]) .nil)))
    .skip)
/-- plan_reach 0:plan 1:some 2:guard 3:value 4:factor 5:add -/
def s11 : PV.S := (.seq (.asg 1 (.comp (.tgTup (.cons (.tgName 2) (.cons (.tgName 3) .nil))) (.itVal (.var 0)) (.lit (.bl true)) (.call 6 .frz (.cons (.var 3) .nil)) [2, 3]))
    (.seq (.ret (.tup (.cons (.prim .max1 (.cons (.comp (.tgTup (.cons (.tgName 4) (.cons (.tgName 5) .nil))) (.itVal (.var 1)) (.lit (.bl true)) (.var 4) [4, 5]) .nil)) (.cons (.prim .max1 (.cons (.comp (.tgTup (.cons (.tgName 4) (.cons (.tgName 5) .nil))) (.itVal (.var 1)) (.lit (.bl true)) (.var 5) [4, 5]) .nil)) .nil))))
    .skip))
/-- defence_reach 0:prenex 1:defence 2:most 3:kind 4:one 5:found 6:plans 7:factor 8:add -/
def l12_0 : PV.S := (.seq (.ife (.prim .eq (.cons (.brw 4 []) (.cons (.brw 3 []) .nil))) (.seq (.asgT (.tgTup (.cons (.tgName 7) (.cons (.tgName 8) .nil))) (.call 11 .frz (.cons (.popAt 6 [] (.lit (.int 0))) .nil)))
    (.seq (.asg 5 (.prim .max2 (.cons (.brw 5 []) (.cons (.prim .add (.cons (.prim .mul (.cons (.brw 7 []) (.cons (.brw 5 []) .nil))) (.cons (.brw 8 []) .nil))) .nil))))
    .skip)) .skip)
    .skip)
def s12 : PV.S := (.seq (.par 5 6 (.var 2) (.prim .list (.cons (.prim .item (.cons (.brw 1 []) (.cons (.lit (.int 2)) .nil))) .nil)))
    (.seq (.asg 3 (.ite (.prim .eq (.cons (.prim .item (.cons (.brw 1 []) (.cons (.lit (.int 1)) .nil))) (.cons (.lit (.str "yes")) .nil))) (.lit (.str "some")) (.lit (.str "all"))))
    (.seq (.forIn (.tgName 4) (.itVal (.prim .item (.cons (.brw 0 []) (.cons (.lit (.int 2)) .nil)))) l12_0)
    (.seq (.ret (.var 5))
    .skip))))
/-- _law_pot 0:script 1:k 2:cell 3:some -/
def s13 : PV.S := (.seq (.asg 2 (.ite (.prim .lt (.cons (.brw 1 []) (.cons (.prim .len (.cons (.brw 0 []) .nil)) .nil))) (.prim .abs (.cons (.prim .item (.cons (.brw 0 []) (.cons (.brw 1 []) .nil))) .nil)) (.prim .add (.cons (.prim .add (.cons (.prim .mul (.cons (.lit (.int 311)) (.cons (.brw 1 []) .nil))) (.cons (.lit (.int 227)) .nil))) (.cons (.prim .mod (.cons (.prim .abs (.cons (.prim .sum (.cons (.sl (.brw 0 []) .nil (.lit (.int 1))) .nil)) .nil)) (.cons (.lit (.int 1000003)) .nil))) .nil)))))
    (.seq (.asg 3 (.prim .add (.cons (.prim .mod (.cons (.prim .int1 (.cons (.prim .add (.cons (.prim .add (.cons (.prim .mul (.cons (.prim .mod (.cons (.prim .int1 (.cons (.brw 2 []) .nil)) (.cons (.lit (.int 2147483549)) .nil))) (.cons (.lit (.int 40507)) .nil))) (.cons (.prim .mul (.cons (.lit (.int 8623)) (.cons (.brw 1 []) .nil))) .nil))) (.cons (.lit (.int 157)) .nil))) .nil)) (.cons (.lit (.int 2147483563)) .nil))) (.cons (.lit (.int 1)) .nil))))
    (.seq (.ret (.lst (.cons (.prim .max2 (.cons (.lit (.int 0)) (.cons (.prim .sub (.cons (.brw 2 []) (.cons (.prim .pow (.cons (.lit (.int 10)) (.cons (.lit (.int 18)) .nil))) .nil))) .nil))) (.cons (.var 3) .nil))))
    .skip)))
/-- _law_draw 0:pot 1:sides 2:digit -/
def s14 : PV.S := (.seq (.ife (.prim .gt (.cons (.prim .item (.cons (.brw 0 []) (.cons (.lit (.int 0)) .nil))) (.cons (.lit (.int 0)) .nil))) (.seq (.setIxT 0 (.lit (.int 0)) 2 (.prim .divmod (.cons (.prim .item (.cons (.brw 0 []) (.cons (.lit (.int 0)) .nil))) (.cons (.brw 1 []) .nil))))
    (.seq (.ret (.var 2))
    .skip)) .skip)
    (.seq (.setIx 0 [] (.lit (.int 1)) (.prim .mod (.cons (.prim .int1 (.cons (.prim .add (.cons (.prim .mul (.cons (.prim .item (.cons (.brw 0 []) (.cons (.lit (.int 1)) .nil))) (.cons (.lit (.int 40709)) .nil))) (.cons (.lit (.int 8623)) .nil))) .nil)) (.cons (.lit (.int 2147483587)) .nil))))
    (.seq (.ret (.prim .mod (.cons (.prim .int1 (.cons (.prim .fdiv (.cons (.prim .mod (.cons (.prim .int1 (.cons (.prim .mul (.cons (.prim .item (.cons (.brw 0 []) (.cons (.lit (.int 1)) .nil))) (.cons (.prim .item (.cons (.brw 0 []) (.cons (.lit (.int 1)) .nil))) .nil))) .nil)) (.cons (.lit (.int 2147483629)) .nil))) (.cons (.lit (.int 23)) .nil))) .nil)) (.cons (.brw 1 []) .nil))))
    .skip)))
/-- _law_pick 0:pot 1:some -/
def s15 : PV.S := (.seq (.ret (.prim .item (.cons (.brw 1 []) (.cons (.call 14 .frz (.cons (.io 0 (.own .frz)) (.cons (.prim .len (.cons (.brw 1 []) .nil)) .nil))) .nil))))
    .skip)
/-- _law_is 0:told 1:due 2:alike 3:at -/
def s16 : PV.S := (.seq (.ife (.prim .isN (.cons (.brw 1 []) .nil)) (.seq (.ret (.prim .isN (.cons (.brw 0 []) .nil)))
    .skip) .skip)
    (.seq (.ife (.prim (.isa [.bool]) (.cons (.brw 1 []) .nil)) (.seq (.ret (.and (.prim (.isa [.bool]) (.cons (.brw 0 []) .nil)) (.prim .eq (.cons (.brw 0 []) (.cons (.brw 1 []) .nil)))))
    .skip) .skip)
    (.seq (.ife (.prim (.isa [.int]) (.cons (.brw 1 []) .nil)) (.seq (.ret (.and (.prim (.isa [.int]) (.cons (.brw 0 []) .nil)) (.and (.prim .not (.cons (.prim (.isa [.bool]) (.cons (.brw 0 []) .nil)) .nil)) (.prim .eq (.cons (.brw 0 []) (.cons (.brw 1 []) .nil))))))
    .skip) .skip)
    (.seq (.ife (.prim (.isa [.str]) (.cons (.brw 1 []) .nil)) (.seq (.ret (.and (.prim (.isa [.str]) (.cons (.brw 0 []) .nil)) (.prim .eq (.cons (.brw 0 []) (.cons (.brw 1 []) .nil)))))
    .skip) .skip)
    (.seq (.asg 2 (.ite (.prim (.isa [.list]) (.cons (.brw 1 []) .nil)) (.prim (.isa [.list]) (.cons (.brw 0 []) .nil)) (.prim (.isa [.tuple]) (.cons (.brw 0 []) .nil))))
    (.seq (.ife (.or (.prim .not (.cons (.var 2) .nil)) (.prim .ne (.cons (.prim .len (.cons (.brw 0 []) .nil)) (.cons (.prim .len (.cons (.brw 1 []) .nil)) .nil)))) (.seq (.ret (.lit (.bl false)))
    .skip) .skip)
    (.seq (.ret (.prim .eq (.cons (.comp (.tgName 3) (.itRange1 (.prim .len (.cons (.brw 1 []) .nil))) (.prim .not (.cons (.call 16 .frz (.cons (.prim .item (.cons (.brw 0 []) (.cons (.brw 3 []) .nil))) (.cons (.prim .item (.cons (.brw 1 []) (.cons (.brw 3 []) .nil))) .nil))) .nil)) (.var 3) [3]) (.cons (.lst .nil) .nil))))
    .skip)))))))
/-- _law_n 0:number -/
def s17 : PV.S := (.seq (.ret (.tup (.cons (.lit (.str "number")) (.cons (.var 0) .nil))))
    .skip)
/-- _law_v 0:name -/
def s18 : PV.S := (.seq (.ret (.tup (.cons (.lit (.str "name")) (.cons (.var 0) .nil))))
    .skip)
/-- _law_term 0:pot 1:names 2:most 3:term 4:name 5:times -/
def l19_0 : PV.S := (.seq (.asg 5 (.prim .sub (.cons (.call 14 .frz (.cons (.io 0 (.own .frz)) (.cons (.prim .add (.cons (.prim .mul (.cons (.lit (.int 2)) (.cons (.brw 2 []) .nil))) (.cons (.lit (.int 1)) .nil))) .nil))) (.cons (.brw 2 []) .nil))))
    (.seq (.ife (.prim .eq (.cons (.brw 5 []) (.cons (.lit (.int 1)) .nil))) (.seq (.asg 3 (.tup (.cons (.lit (.str "plus")) (.cons (.var 3) (.cons (.call 18 .frz (.cons (.var 4) .nil)) .nil)))))
    .skip) (.seq (.ife (.prim .eq (.cons (.brw 5 []) (.cons (.prim .neg (.cons (.lit (.int 1)) .nil)) .nil))) (.seq (.asg 3 (.tup (.cons (.lit (.str "less")) (.cons (.var 3) (.cons (.call 18 .frz (.cons (.var 4) .nil)) .nil)))))
    .skip) (.seq (.ife (.prim .ne (.cons (.brw 5 []) (.cons (.lit (.int 0)) .nil))) (.seq (.asg 3 (.tup (.cons (.lit (.str "plus")) (.cons (.var 3) (.cons (.tup (.cons (.lit (.str "times")) (.cons (.var 5) (.cons (.call 18 .frz (.cons (.var 4) .nil)) .nil)))) .nil)))))
    .skip) .skip)
    .skip))
    .skip))
    .skip))
def s19 : PV.S := (.seq (.asg 3 (.call 17 .frz (.cons (.prim .sub (.cons (.call 14 .frz (.cons (.io 0 (.own .frz)) (.cons (.lit (.int 9)) .nil))) (.cons (.lit (.int 4)) .nil))) .nil)))
    (.seq (.forIn (.tgName 4) (.itVal (.var 1)) l19_0)
    (.seq (.ret (.var 3))
    .skip)))
/-- _law_atom 0:pot 1:names 2:most -/
def s20 : PV.S := (.seq (.ife (.prim .eq (.cons (.call 14 .frz (.cons (.io 0 (.own .frz)) (.cons (.lit (.int 4)) .nil))) (.cons (.lit (.int 0)) .nil))) (.seq (.ret (.tup (.cons (.lit (.str "into")) (.cons (.prim .add (.cons (.lit (.int 2)) (.cons (.call 14 .frz (.cons (.io 0 (.own .frz)) (.cons (.lit (.int 4)) .nil))) .nil))) (.cons (.call 19 .frz (.cons (.io 0 (.own .frz)) (.cons (.var 1) (.cons (.var 2) .nil)))) .nil)))))
    .skip) .skip)
    (.seq (.ret (.tup (.cons (.lit (.str "is")) (.cons (.call 15 .frz (.cons (.io 0 (.own .frz)) (.cons (.lst (.cons (.lit (.str "<")) (.cons (.lit (.str "<=")) (.cons (.lit (.str "=")) (.cons (.lit (.str "!=")) (.cons (.lit (.str ">")) (.cons (.lit (.str ">=")) .nil))))))) .nil))) (.cons (.call 19 .frz (.cons (.io 0 (.own .frz)) (.cons (.var 1) (.cons (.var 2) .nil)))) (.cons (.call 19 .frz (.cons (.io 0 (.own .frz)) (.cons (.sl (.brw 1 []) .nil (.lit (.int 1))) (.cons (.lit (.int 1)) .nil)))) .nil))))))
    .skip))
/-- _law_bare 0:pot 1:names 2:most 3:depth 4:kind -/
def s21 : PV.S := (.seq (.asg 4 (.ite (.prim .gt (.cons (.brw 3 []) (.cons (.lit (.int 0)) .nil))) (.call 14 .frz (.cons (.io 0 (.own .frz)) (.cons (.lit (.int 6)) .nil))) (.lit (.int 0))))
    (.seq (.ife (.prim .lt (.cons (.brw 4 []) (.cons (.lit (.int 2)) .nil))) (.seq (.ret (.call 20 .frz (.cons (.io 0 (.own .frz)) (.cons (.var 1) (.cons (.var 2) .nil)))))
    .skip) .skip)
    (.seq (.ife (.prim .eq (.cons (.brw 4 []) (.cons (.lit (.int 2)) .nil))) (.seq (.ret (.tup (.cons (.lit (.str "not")) (.cons (.call 21 .frz (.cons (.io 0 (.own .frz)) (.cons (.var 1) (.cons (.var 2) (.cons (.prim .sub (.cons (.brw 3 []) (.cons (.lit (.int 1)) .nil))) .nil))))) .nil))))
    .skip) .skip)
    (.seq (.ret (.tup (.cons (.call 15 .frz (.cons (.io 0 (.own .frz)) (.cons (.lst (.cons (.lit (.str "and")) (.cons (.lit (.str "or")) .nil))) .nil))) (.cons (.call 21 .frz (.cons (.io 0 (.own .frz)) (.cons (.var 1) (.cons (.var 2) (.cons (.prim .sub (.cons (.brw 3 []) (.cons (.lit (.int 1)) .nil))) .nil))))) (.cons (.call 21 .frz (.cons (.io 0 (.own .frz)) (.cons (.var 1) (.cons (.var 2) (.cons (.prim .sub (.cons (.brw 3 []) (.cons (.lit (.int 1)) .nil))) .nil))))) .nil)))))
    .skip))))
/-- _law_sum 0:t 1:known -/
def s22 : PV.S := (.seq (.ife (.prim .eq (.cons (.prim .item (.cons (.brw 0 []) (.cons (.lit (.int 0)) .nil))) (.cons (.lit (.str "number")) .nil))) (.seq (.ret (.tup (.cons (.prim .item (.cons (.brw 0 []) (.cons (.lit (.int 1)) .nil))) (.cons (.tup .nil) .nil))))
    .skip) .skip)
    (.seq (.ife (.prim .eq (.cons (.prim .item (.cons (.brw 0 []) (.cons (.lit (.int 0)) .nil))) (.cons (.lit (.str "name")) .nil))) (.seq (.ret (.tup (.cons (.lit (.int 0)) (.cons (.tup (.cons (.tup (.cons (.prim .item (.cons (.brw 1 []) (.cons (.prim .item (.cons (.brw 0 []) (.cons (.lit (.int 1)) .nil))) .nil))) (.cons (.lit (.int 1)) .nil))) .nil)) .nil))))
    .skip) .skip)
    (.seq (.ife (.prim .eq (.cons (.prim .item (.cons (.brw 0 []) (.cons (.lit (.int 0)) .nil))) (.cons (.lit (.str "times")) .nil))) (.seq (.ret (.call 23 .frz (.cons (.lst (.cons (.tup (.cons (.call 22 .frz (.cons (.prim .item (.cons (.brw 0 []) (.cons (.lit (.int 2)) .nil))) (.cons (.var 1) .nil))) (.cons (.prim .item (.cons (.brw 0 []) (.cons (.lit (.int 1)) .nil))) .nil))) .nil)) .nil)))
    .skip) .skip)
    (.seq (.ret (.call 23 .frz (.cons (.lst (.cons (.tup (.cons (.call 22 .frz (.cons (.prim .item (.cons (.brw 0 []) (.cons (.lit (.int 1)) .nil))) (.cons (.var 1) .nil))) (.cons (.lit (.int 1)) .nil))) (.cons (.tup (.cons (.call 22 .frz (.cons (.prim .item (.cons (.brw 0 []) (.cons (.lit (.int 2)) .nil))) (.cons (.var 1) .nil))) (.cons (.ite (.prim .eq (.cons (.prim .item (.cons (.brw 0 []) (.cons (.lit (.int 0)) .nil))) (.cons (.lit (.str "plus")) .nil))) (.lit (.int 1)) (.prim .neg (.cons (.lit (.int 1)) .nil))) .nil))) .nil))) .nil)))
    .skip))))
/-- _law_made 0:parts 1:total 2:sums 3:linear 4:times 5:v 6:many -/
def l23_0 : PV.S := (.seq (.setIx 2 [] (.var 5) (.prim .add (.cons (.get (.brw 2 []) (.var 5) (.lit (.int 0))) (.cons (.prim .mul (.cons (.brw 6 []) (.cons (.brw 4 []) .nil))) .nil))))
    .skip)
def l23_1 : PV.S := (.seq (.asg 1 (.prim .add (.cons (.brw 1 []) (.cons (.prim .mul (.cons (.prim .item (.cons (.brw 3 []) (.cons (.lit (.int 0)) .nil))) (.cons (.brw 4 []) .nil))) .nil))))
    (.seq (.forIn (.tgTup (.cons (.tgName 5) (.cons (.tgName 6) .nil))) (.itVal (.prim .item (.cons (.brw 3 []) (.cons (.lit (.int 1)) .nil)))) l23_0)
    .skip))
def s23 : PV.S := (.seq (.par 1 2 (.lit (.int 0)) (.dct .nil))
    (.seq (.forIn (.tgTup (.cons (.tgName 3) (.cons (.tgName 4) .nil))) (.itVal (.var 0)) l23_1)
    (.seq (.ret (.tup (.cons (.var 1) (.cons (.prim .tuple (.cons (.comp (.tgName 5) (.itVal (.prim .sorted (.cons (.prim .list (.cons (.brw 2 []) .nil)) .nil))) (.prim .ne (.cons (.prim .item (.cons (.brw 2 []) (.cons (.brw 5 []) .nil))) (.cons (.lit (.int 0)) .nil))) (.tup (.cons (.var 5) (.cons (.prim .item (.cons (.brw 2 []) (.cons (.brw 5 []) .nil))) .nil))) [5]) .nil)) .nil))))
    .skip)))
/-- _law_le 0:near 1:far 2:add 3:late -/
def s24 : PV.S := (.seq (.asg 3 (.call 23 .frz (.cons (.lst (.cons (.tup (.cons (.var 0) (.cons (.lit (.int 1)) .nil))) (.cons (.tup (.cons (.var 1) (.cons (.prim .neg (.cons (.lit (.int 1)) .nil)) .nil))) .nil))) .nil)))
    (.seq (.ret (.tup (.cons (.lit (.str "le")) (.cons (.tup (.cons (.prim .add (.cons (.prim .item (.cons (.brw 3 []) (.cons (.lit (.int 0)) .nil))) (.cons (.brw 2 []) .nil))) (.cons (.prim .item (.cons (.brw 3 []) (.cons (.lit (.int 1)) .nil))) .nil))) .nil))))
    .skip))
/-- _law_formula 0:f 1:known 2:is_denied 3:next_one 4:within 5:inner 6:late 7:near 8:far 9:word 10:add -/
def s25 : PV.S := (.seq (.ife (.prim .eq (.cons (.prim .item (.cons (.brw 0 []) (.cons (.lit (.int 0)) .nil))) (.cons (.lit (.str "is")) .nil))) (.seq (.par3 7 8 9 (.call 22 .frz (.cons (.prim .item (.cons (.brw 0 []) (.cons (.lit (.int 2)) .nil))) (.cons (.var 1) .nil))) (.call 22 .frz (.cons (.prim .item (.cons (.brw 0 []) (.cons (.lit (.int 3)) .nil))) (.cons (.var 1) .nil))) (.prim .item (.cons (.brw 0 []) (.cons (.lit (.int 1)) .nil))))
    (.seq (.ife (.var 2) (.seq (.asg 9 (.prim .item (.cons (.dct (.cons (.lit (.str "<")) (.cons (.lit (.str ">=")) (.cons (.lit (.str "<=")) (.cons (.lit (.str ">")) (.cons (.lit (.str "=")) (.cons (.lit (.str "!=")) (.cons (.lit (.str "!=")) (.cons (.lit (.str "=")) (.cons (.lit (.str ">")) (.cons (.lit (.str "<=")) (.cons (.lit (.str ">=")) (.cons (.lit (.str "<")) .nil))))))))))))) (.cons (.brw 9 []) .nil))))
    .skip) .skip)
    (.seq (.ife (.prim .isin (.cons (.brw 9 []) (.cons (.tup (.cons (.lit (.str "=")) (.cons (.lit (.str "!=")) .nil))) .nil))) (.seq (.asg 10 (.ite (.prim .eq (.cons (.brw 9 []) (.cons (.lit (.str "=")) .nil))) (.lit (.int 0)) (.lit (.int 1))))
    (.seq (.ret (.tup (.cons (.tup (.cons (.ite (.prim .eq (.cons (.brw 9 []) (.cons (.lit (.str "=")) .nil))) (.lit (.str "and")) (.lit (.str "or"))) (.cons (.tup (.cons (.call 24 .frz (.cons (.var 7) (.cons (.var 8) (.cons (.var 10) .nil)))) (.cons (.call 24 .frz (.cons (.var 8) (.cons (.var 7) (.cons (.var 10) .nil)))) .nil))) .nil))) (.cons (.var 3) .nil))))
    .skip)) .skip)
    (.seq (.ife (.prim .isin (.cons (.brw 9 []) (.cons (.tup (.cons (.lit (.str ">")) (.cons (.lit (.str ">=")) .nil))) .nil))) (.seq (.par 7 8 (.var 8) (.var 7))
    .skip) .skip)
    (.seq (.ret (.tup (.cons (.call 24 .frz (.cons (.var 7) (.cons (.var 8) (.cons (.ite (.prim .isin (.cons (.brw 9 []) (.cons (.tup (.cons (.lit (.str "<")) (.cons (.lit (.str ">")) .nil))) .nil))) (.lit (.int 1)) (.lit (.int 0))) .nil)))) (.cons (.var 3) .nil))))
    .skip))))) .skip)
    (.seq (.ife (.prim .eq (.cons (.prim .item (.cons (.brw 0 []) (.cons (.lit (.int 0)) .nil))) (.cons (.lit (.str "into")) .nil))) (.seq (.ret (.tup (.cons (.tup (.cons (.ite (.var 2) (.lit (.str "off")) (.lit (.str "into"))) (.cons (.prim .item (.cons (.brw 0 []) (.cons (.lit (.int 1)) .nil))) (.cons (.call 22 .frz (.cons (.prim .item (.cons (.brw 0 []) (.cons (.lit (.int 2)) .nil))) (.cons (.var 1) .nil))) .nil)))) (.cons (.var 3) .nil))))
    .skip) .skip)
    (.seq (.ife (.prim .eq (.cons (.prim .item (.cons (.brw 0 []) (.cons (.lit (.int 0)) .nil))) (.cons (.lit (.str "not")) .nil))) (.seq (.ret (.call 25 .frz (.cons (.prim .item (.cons (.brw 0 []) (.cons (.lit (.int 1)) .nil))) (.cons (.var 1) (.cons (.prim .not (.cons (.var 2) .nil)) (.cons (.var 3) .nil))))))
    .skip) .skip)
    (.seq (.ife (.prim .isin (.cons (.prim .item (.cons (.brw 0 []) (.cons (.lit (.int 0)) .nil))) (.cons (.tup (.cons (.lit (.str "and")) (.cons (.lit (.str "or")) .nil))) .nil))) (.seq (.asgT (.tgTup (.cons (.tgName 7) (.cons (.tgName 6) .nil))) (.call 25 .frz (.cons (.prim .item (.cons (.brw 0 []) (.cons (.lit (.int 1)) .nil))) (.cons (.var 1) (.cons (.var 2) (.cons (.var 3) .nil))))))
    (.seq (.asgT (.tgTup (.cons (.tgName 8) (.cons (.tgName 6) .nil))) (.call 25 .frz (.cons (.prim .item (.cons (.brw 0 []) (.cons (.lit (.int 2)) .nil))) (.cons (.var 1) (.cons (.var 2) (.cons (.var 6) .nil))))))
    (.seq (.ret (.tup (.cons (.tup (.cons (.ite (.var 2) (.prim .item (.cons (.dct (.cons (.lit (.str "and")) (.cons (.lit (.str "or")) (.cons (.lit (.str "or")) (.cons (.lit (.str "and")) .nil))))) (.cons (.prim .item (.cons (.brw 0 []) (.cons (.lit (.int 0)) .nil))) .nil))) (.prim .item (.cons (.brw 0 []) (.cons (.lit (.int 0)) .nil)))) (.cons (.tup (.cons (.var 7) (.cons (.var 8) .nil))) .nil))) (.cons (.var 6) .nil))))
    .skip))) .skip)
    (.seq (.asg 4 (.prim .dict1 (.cons (.brw 1 []) .nil)))
    (.seq (.setIx 4 [] (.prim .item (.cons (.brw 0 []) (.cons (.lit (.int 1)) .nil))) (.var 3))
    (.seq (.asgT (.tgTup (.cons (.tgName 5) (.cons (.tgName 6) .nil))) (.call 25 .frz (.cons (.prim .item (.cons (.brw 0 []) (.cons (.lit (.int 2)) .nil))) (.cons (.var 4) (.cons (.var 2) (.cons (.prim .add (.cons (.brw 3 []) (.cons (.lit (.int 1)) .nil))) .nil))))))
    (.seq (.ret (.tup (.cons (.tup (.cons (.ite (.var 2) (.prim .item (.cons (.dct (.cons (.lit (.str "all")) (.cons (.lit (.str "some")) (.cons (.lit (.str "some")) (.cons (.lit (.str "all")) .nil))))) (.cons (.prim .item (.cons (.brw 0 []) (.cons (.lit (.int 0)) .nil))) .nil))) (.prim .item (.cons (.brw 0 []) (.cons (.lit (.int 0)) .nil)))) (.cons (.var 3) (.cons (.var 5) .nil)))) (.cons (.var 6) .nil))))
    .skip))))))))
/-- _law_is_so 0:formula 1:numbers 2:total 3:told 4:one 5:v 6:many -/
def s26 : PV.S := (.seq (.ife (.prim .isin (.cons (.prim .item (.cons (.brw 0 []) (.cons (.lit (.int 0)) .nil))) (.cons (.tup (.cons (.lit (.str "and")) (.cons (.lit (.str "or")) .nil))) .nil))) (.seq (.asg 3 (.comp (.tgName 4) (.itVal (.prim .item (.cons (.brw 0 []) (.cons (.lit (.int 1)) .nil)))) (.lit (.bl true)) (.call 26 .frz (.cons (.var 4) (.cons (.var 1) .nil))) [4]))
    (.seq (.ret (.ite (.prim .eq (.cons (.prim .item (.cons (.brw 0 []) (.cons (.lit (.int 0)) .nil))) (.cons (.lit (.str "and")) .nil))) (.prim .all (.cons (.brw 3 []) .nil)) (.prim .any (.cons (.brw 3 []) .nil))))
    .skip)) .skip)
    (.seq (.asg 2 (.prim .add (.cons (.prim .item (.cons (.prim .item (.cons (.brw 0 []) (.cons (.prim .neg (.cons (.lit (.int 1)) .nil)) .nil))) (.cons (.lit (.int 0)) .nil))) (.cons (.prim .sum (.cons (.comp (.tgTup (.cons (.tgName 5) (.cons (.tgName 6) .nil))) (.itVal (.prim .item (.cons (.prim .item (.cons (.brw 0 []) (.cons (.prim .neg (.cons (.lit (.int 1)) .nil)) .nil))) (.cons (.lit (.int 1)) .nil)))) (.lit (.bl true)) (.prim .mul (.cons (.brw 6 []) (.cons (.prim .item (.cons (.brw 1 []) (.cons (.brw 5 []) .nil))) .nil))) [5, 6]) .nil)) .nil))))
    (.seq (.ife (.prim .eq (.cons (.prim .item (.cons (.brw 0 []) (.cons (.lit (.int 0)) .nil))) (.cons (.lit (.str "le")) .nil))) (.seq (.ret (.prim .le (.cons (.brw 2 []) (.cons (.lit (.int 0)) .nil))))
    .skip) .skip)
    (.seq (.ret (.prim .eq (.cons (.prim .eq (.cons (.prim .int1 (.cons (.prim .mod (.cons (.brw 2 []) (.cons (.prim .item (.cons (.brw 0 []) (.cons (.lit (.int 1)) .nil))) .nil))) .nil)) (.cons (.lit (.int 0)) .nil))) (.cons (.prim .eq (.cons (.prim .item (.cons (.brw 0 []) (.cons (.lit (.int 0)) .nil))) (.cons (.lit (.str "into")) .nil))) .nil))))
    .skip))))
/-- _law_drawn 0:pot 1:many 2:most 3:depth 4:names 5:known 6:at 7:name -/
def s27 : PV.S := (.seq (.asg 4 (.sl (.lst (.cons (.lit (.str "x")) (.cons (.lit (.str "y")) (.cons (.lit (.str "z")) .nil)))) .nil (.var 1)))
    (.seq (.asg 5 (.prim .dict1 (.cons (.comp (.tgTup (.cons (.tgName 6) (.cons (.tgName 7) .nil))) (.itEnum (.var 4)) (.lit (.bl true)) (.tup (.cons (.var 7) (.cons (.var 6) .nil))) [6, 7]) .nil)))
    (.seq (.ret (.prim .item (.cons (.call 25 .frz (.cons (.call 21 .frz (.cons (.io 0 (.own .frz)) (.cons (.var 4) (.cons (.var 2) (.cons (.var 3) .nil))))) (.cons (.var 5) (.cons (.lit (.bl false)) (.cons (.var 1) .nil))))) (.cons (.lit (.int 0)) .nil))))
    .skip)))
/-- _law_is_bare 0:formula 1:v 2:one 3:many -/
def s28 : PV.S := (.seq (.ife (.prim .isin (.cons (.prim .item (.cons (.brw 0 []) (.cons (.lit (.int 0)) .nil))) (.cons (.tup (.cons (.lit (.str "and")) (.cons (.lit (.str "or")) .nil))) .nil))) (.seq (.ret (.prim .all (.cons (.comp (.tgName 2) (.itVal (.prim .item (.cons (.brw 0 []) (.cons (.lit (.int 1)) .nil)))) (.lit (.bl true)) (.call 28 .frz (.cons (.var 2) (.cons (.var 1) .nil))) [2]) .nil)))
    .skip) .skip)
    (.seq (.ret (.and (.prim .isin (.cons (.prim .item (.cons (.brw 0 []) (.cons (.lit (.int 0)) .nil))) (.cons (.tup (.cons (.lit (.str "le")) (.cons (.lit (.str "into")) (.cons (.lit (.str "off")) .nil)))) .nil))) (.prim .eq (.cons (.comp (.tgTup (.cons (.tgName 2) (.cons (.tgName 3) .nil))) (.itVal (.prim .item (.cons (.prim .item (.cons (.brw 0 []) (.cons (.prim .neg (.cons (.lit (.int 1)) .nil)) .nil))) (.cons (.lit (.int 1)) .nil)))) (.prim .ge (.cons (.brw 2 []) (.cons (.brw 1 []) .nil))) (.var 2) [2, 3]) (.cons (.lst .nil) .nil)))))
    .skip))
/-- _law_value 0:value 1:numbers 2:sums 3:here 4:kind 5:some 6:rest 7:period 8:by 9:told 10:one 11:v 12:many -/
def s29 : PV.S := (.seq (.ife (.prim .eq (.cons (.prim .item (.cons (.brw 0 []) (.cons (.lit (.int 0)) .nil))) (.cons (.lit (.str "over")) .nil))) (.seq (.par 9 8 (.prim .add (.cons (.prim .item (.cons (.prim .item (.cons (.brw 0 []) (.cons (.lit (.int 1)) .nil))) (.cons (.lit (.int 0)) .nil))) (.cons (.prim .sum (.cons (.comp (.tgTup (.cons (.tgName 11) (.cons (.tgName 12) .nil))) (.itVal (.prim .item (.cons (.prim .item (.cons (.brw 0 []) (.cons (.lit (.int 1)) .nil))) (.cons (.lit (.int 1)) .nil)))) (.lit (.bl true)) (.prim .mul (.cons (.brw 12 []) (.cons (.prim .item (.cons (.brw 1 []) (.cons (.brw 11 []) .nil))) .nil))) [11, 12]) .nil)) .nil))) (.prim .item (.cons (.brw 0 []) (.cons (.lit (.int 2)) .nil))))
    (.seq (.ret (.ite (.and (.prim .gt (.cons (.brw 8 []) (.cons (.lit (.int 0)) .nil))) (.prim .eq (.cons (.prim .int1 (.cons (.prim .mod (.cons (.brw 9 []) (.cons (.brw 8 []) .nil))) .nil)) (.cons (.lit (.int 0)) .nil)))) (.prim .fdiv (.cons (.brw 9 []) (.cons (.brw 8 []) .nil))) (.lit .non)))
    .skip)) .skip)
    (.seq (.asgT (.tgTup (.cons (.tgName 4) (.cons (.tgName 5) (.cons (.tgName 6) (.cons (.tgName 7) (.cons (.tgName 8) .nil)))))) (.var 0))
    (.seq (.ife (.or (.prim .lt (.cons (.brw 7 []) (.cons (.lit (.int 1)) .nil))) (.prim .lt (.cons (.brw 8 []) (.cons (.lit (.int 1)) .nil)))) (.seq (.ret (.lit .non))
    .skip) .skip)
    (.seq (.ife (.prim .eq (.cons (.brw 5 []) (.cons (.tup .nil) .nil))) (.seq (.ret (.ite (.prim .eq (.cons (.prim .int1 (.cons (.prim .mod (.cons (.brw 6 []) (.cons (.brw 8 []) .nil))) .nil)) (.cons (.lit (.int 0)) .nil))) (.prim .fdiv (.cons (.brw 6 []) (.cons (.brw 8 []) .nil))) (.lit .non)))
    .skip) .skip)
    (.seq (.asg 2 (.comp (.tgName 10) (.itVal (.var 5)) (.lit (.bl true)) (.prim .add (.cons (.prim .item (.cons (.brw 10 []) (.cons (.lit (.int 0)) .nil))) (.cons (.prim .sum (.cons (.comp (.tgTup (.cons (.tgName 11) (.cons (.tgName 12) .nil))) (.itVal (.prim .item (.cons (.brw 10 []) (.cons (.lit (.int 1)) .nil)))) (.lit (.bl true)) (.prim .mul (.cons (.brw 12 []) (.cons (.prim .item (.cons (.brw 1 []) (.cons (.brw 11 []) .nil))) .nil))) [11, 12]) .nil)) .nil))) [10]))
    (.seq (.asg 3 (.ite (.prim .eq (.cons (.brw 4 []) (.cons (.lit (.str "low")) .nil))) (.prim .sub (.cons (.prim .min1 (.cons (.brw 2 []) .nil)) (.cons (.lit (.int 1)) .nil))) (.prim .add (.cons (.prim .max1 (.cons (.brw 2 []) .nil)) (.cons (.lit (.int 1)) .nil)))))
    (.seq (.asg 3 (.ite (.prim .eq (.cons (.brw 4 []) (.cons (.lit (.str "low")) .nil))) (.prim .sub (.cons (.brw 3 []) (.cons (.prim .mod (.cons (.prim .int1 (.cons (.prim .sub (.cons (.brw 3 []) (.cons (.brw 6 []) .nil))) .nil)) (.cons (.brw 7 []) .nil))) .nil))) (.prim .add (.cons (.brw 3 []) (.cons (.prim .mod (.cons (.prim .int1 (.cons (.prim .sub (.cons (.brw 6 []) (.cons (.brw 3 []) .nil))) .nil)) (.cons (.brw 7 []) .nil))) .nil)))))
    (.seq (.ret (.ite (.prim .eq (.cons (.prim .int1 (.cons (.prim .mod (.cons (.brw 3 []) (.cons (.brw 8 []) .nil))) .nil)) (.cons (.lit (.int 0)) .nil))) (.prim .fdiv (.cons (.brw 3 []) (.cons (.brw 8 []) .nil))) (.lit .non)))
    .skip))))))))
/-- _law_told 0:plan 1:numbers 2:guard 3:value -/
def l30_0 : PV.S := (.seq (.ife (.call 26 .frz (.cons (.var 2) (.cons (.var 1) .nil))) (.seq (.ret (.call 29 .frz (.cons (.var 3) (.cons (.var 1) .nil))))
    .skip) .skip)
    .skip)
def s30 : PV.S := (.seq (.forIn (.tgTup (.cons (.tgName 2) (.cons (.tgName 3) .nil))) (.itVal (.var 0)) l30_0)
    (.seq (.ret (.lit .non))
    .skip))
/-- _law_linear 0:pot 1:many 2:terms 3:v 4:times -/
def s31 : PV.S := (.seq (.asg 2 (.comp (.tgName 3) (.itRange1 (.var 1)) (.lit (.bl true)) (.tup (.cons (.var 3) (.cons (.prim .sub (.cons (.call 14 .frz (.cons (.io 0 (.own .frz)) (.cons (.lit (.int 7)) .nil))) (.cons (.lit (.int 3)) .nil))) .nil))) [3]))
    (.seq (.ret (.tup (.cons (.prim .sub (.cons (.call 14 .frz (.cons (.io 0 (.own .frz)) (.cons (.lit (.int 41)) .nil))) (.cons (.lit (.int 20)) .nil))) (.cons (.prim .tuple (.cons (.comp (.tgTup (.cons (.tgName 3) (.cons (.tgName 4) .nil))) (.itVal (.var 2)) (.prim .ne (.cons (.brw 4 []) (.cons (.lit (.int 0)) .nil))) (.tup (.cons (.var 3) (.cons (.var 4) .nil))) [3, 4]) .nil)) .nil))))
    .skip))
/-- _law_drawn_value 0:pot 1:many 2:by 3:period 4:rest 5:some 6:turn -/
def s32 : PV.S := (.seq (.ife (.prim .eq (.cons (.call 14 .frz (.cons (.io 0 (.own .frz)) (.cons (.lit (.int 2)) .nil))) (.cons (.lit (.int 0)) .nil))) (.seq (.ret (.tup (.cons (.lit (.str "over")) (.cons (.call 31 .frz (.cons (.io 0 (.own .frz)) (.cons (.var 1) .nil))) (.cons (.prim .add (.cons (.lit (.int 1)) (.cons (.call 14 .frz (.cons (.io 0 (.own .frz)) (.cons (.lit (.int 3)) .nil))) .nil))) .nil)))))
    .skip) .skip)
    (.seq (.asg 2 (.prim .add (.cons (.lit (.int 1)) (.cons (.call 14 .frz (.cons (.io 0 (.own .frz)) (.cons (.lit (.int 3)) .nil))) .nil))))
    (.seq (.asg 3 (.prim .mul (.cons (.brw 2 []) (.cons (.prim .add (.cons (.lit (.int 1)) (.cons (.call 14 .frz (.cons (.io 0 (.own .frz)) (.cons (.lit (.int 4)) .nil))) .nil))) .nil))))
    (.seq (.asg 4 (.ite (.prim .gt (.cons (.call 14 .frz (.cons (.io 0 (.own .frz)) (.cons (.lit (.int 4)) .nil))) (.cons (.lit (.int 0)) .nil))) (.prim .mul (.cons (.brw 2 []) (.cons (.call 14 .frz (.cons (.io 0 (.own .frz)) (.cons (.prim .fdiv (.cons (.brw 3 []) (.cons (.brw 2 []) .nil))) .nil))) .nil))) (.call 14 .frz (.cons (.io 0 (.own .frz)) (.cons (.var 3) .nil)))))
    (.seq (.asg 5 (.prim .tuple (.cons (.comp (.tgName 6) (.itRange1 (.call 14 .frz (.cons (.io 0 (.own .frz)) (.cons (.lit (.int 4)) .nil)))) (.lit (.bl true)) (.call 31 .frz (.cons (.io 0 (.own .frz)) (.cons (.var 1) .nil))) [6]) .nil)))
    (.seq (.ret (.tup (.cons (.call 15 .frz (.cons (.io 0 (.own .frz)) (.cons (.lst (.cons (.lit (.str "low")) (.cons (.lit (.str "high")) .nil))) .nil))) (.cons (.var 5) (.cons (.var 4) (.cons (.var 3) (.cons (.var 2) .nil)))))))
    .skip))))))
/-- _law_plan 0:pot 1:many 2:pieces 3:turn -/
def s33 : PV.S := (.seq (.asg 2 (.comp (.tgName 3) (.itRange1 (.call 14 .frz (.cons (.io 0 (.own .frz)) (.cons (.lit (.int 4)) .nil)))) (.lit (.bl true)) (.tup (.cons (.call 27 .frz (.cons (.io 0 (.own .frz)) (.cons (.var 1) (.cons (.lit (.int 2)) (.cons (.lit (.int 1)) .nil))))) (.cons (.call 32 .frz (.cons (.io 0 (.own .frz)) (.cons (.var 1) .nil))) .nil))) [3]))
    (.seq (.ret (.prim .tuple (.cons (.prim .add (.cons (.brw 2 []) (.cons (.lst (.cons (.tup (.cons (.tup (.cons (.lit (.str "and")) (.cons (.tup .nil) .nil))) (.cons (.call 32 .frz (.cons (.io 0 (.own .frz)) (.cons (.var 1) .nil))) .nil))) .nil)) .nil))) .nil)))
    .skip))
/-- _law_atoms 0:formula 1:one -/
def s34 : PV.S := (.seq (.ret (.ite (.prim .isin (.cons (.prim .item (.cons (.brw 0 []) (.cons (.lit (.int 0)) .nil))) (.cons (.tup (.cons (.lit (.str "and")) (.cons (.lit (.str "or")) .nil))) .nil))) (.prim .sum0 (.cons (.comp (.tgName 1) (.itVal (.prim .item (.cons (.brw 0 []) (.cons (.lit (.int 1)) .nil)))) (.lit (.bl true)) (.call 34 .frz (.cons (.var 1) .nil)) [1]) .nil)) (.lit (.int 1))))
    .skip)
/-- _law_reach 0:value 1:some 2:one 3:v 4:many -/
def s35 : PV.S := (.seq (.ife (.prim .eq (.cons (.prim .item (.cons (.brw 0 []) (.cons (.lit (.int 0)) .nil))) (.cons (.lit (.str "over")) .nil))) (.seq (.ret (.tup (.cons (.prim .sum (.cons (.comp (.tgTup (.cons (.tgName 3) (.cons (.tgName 4) .nil))) (.itVal (.prim .item (.cons (.prim .item (.cons (.brw 0 []) (.cons (.lit (.int 1)) .nil))) (.cons (.lit (.int 1)) .nil)))) (.lit (.bl true)) (.prim .abs (.cons (.brw 4 []) .nil)) [3, 4]) .nil)) (.cons (.prim .abs (.cons (.prim .item (.cons (.prim .item (.cons (.brw 0 []) (.cons (.lit (.int 1)) .nil))) (.cons (.lit (.int 0)) .nil))) .nil)) .nil))))
    .skip) .skip)
    (.seq (.ife (.prim .eq (.cons (.prim .item (.cons (.brw 0 []) (.cons (.lit (.int 1)) .nil))) (.cons (.tup .nil) .nil))) (.seq (.ret (.tup (.cons (.lit (.int 0)) (.cons (.prim .item (.cons (.brw 0 []) (.cons (.lit (.int 2)) .nil))) .nil))))
    .skip) .skip)
    (.seq (.asg 1 (.comp (.tgName 2) (.itVal (.prim .item (.cons (.brw 0 []) (.cons (.lit (.int 1)) .nil)))) (.lit (.bl true)) (.tup (.cons (.prim .sum (.cons (.comp (.tgTup (.cons (.tgName 3) (.cons (.tgName 4) .nil))) (.itVal (.prim .item (.cons (.brw 2 []) (.cons (.lit (.int 1)) .nil)))) (.lit (.bl true)) (.prim .abs (.cons (.brw 4 []) .nil)) [3, 4]) .nil)) (.cons (.prim .abs (.cons (.prim .item (.cons (.brw 2 []) (.cons (.lit (.int 0)) .nil))) .nil)) .nil))) [2]))
    (.seq (.ret (.tup (.cons (.prim .max1 (.cons (.comp (.tgName 2) (.itVal (.var 1)) (.lit (.bl true)) (.prim .item (.cons (.brw 2 []) (.cons (.lit (.int 0)) .nil))) [2]) .nil)) (.cons (.prim .add (.cons (.prim .max1 (.cons (.comp (.tgName 2) (.itVal (.var 1)) (.lit (.bl true)) (.prim .item (.cons (.brw 2 []) (.cons (.lit (.int 1)) .nil))) [2]) .nil)) (.cons (.prim .item (.cons (.brw 0 []) (.cons (.lit (.int 3)) .nil))) .nil))) .nil))))
    .skip))))
/-- _law_right 0:pot 1:many 2:plan 3:kept 4:reaches 5:reach 6:size 7:turn 8:found 9:one 10:numbers 11:at 12:told 13:first 14:second 15:most 16:form 17:defence 18:some 19:guard 20:value 21:due 22:v 23:place 24:piece 25:late -/
def l36_0 : PV.S := (.seq (.asg 18 (.comp (.tgTup (.cons (.tgName 19) (.cons (.tgName 20) .nil))) (.itVal (.var 9)) (.lit (.bl true)) (.call 35 .frz (.cons (.var 20) .nil)) [19, 20]))
    (.seq (.asg 8 (.prim .max2 (.cons (.brw 8 []) (.cons (.prim .add (.cons (.prim .mul (.cons (.prim .max1 (.cons (.comp (.tgName 25) (.itVal (.var 18)) (.lit (.bl true)) (.prim .item (.cons (.brw 25 []) (.cons (.lit (.int 0)) .nil))) [25]) .nil)) (.cons (.brw 8 []) .nil))) (.cons (.prim .max1 (.cons (.comp (.tgName 25) (.itVal (.var 18)) (.lit (.bl true)) (.prim .item (.cons (.brw 25 []) (.cons (.lit (.int 1)) .nil))) [25]) .nil)) .nil))) .nil))))
    .skip))
def l36_1 : PV.S := (.seq (.asg 21 (.call 29 .frz (.cons (.var 20) (.cons (.var 10) .nil))))
    (.seq (.ife (.prim .not (.cons (.call 16 .frz (.cons (.lst (.cons (.call 7 .frz (.cons (.var 20) (.cons (.prim .list (.cons (.brw 10 []) .nil)) .nil))) (.cons (.callK 7 [1, 0] .nil (.cons (.prim .dictE (.cons (.brw 10 []) .nil)) (.cons (.var 20) .nil))) .nil))) (.cons (.lst (.cons (.var 21) (.cons (.var 21) .nil))) .nil))) .nil)) (.seq (.ret (.lit (.bl false)))
    .skip) .skip)
    .skip))
def l36_2 : PV.S := (.seq (.asg 10 (.comp (.tgName 22) (.itRange1 (.var 1)) (.lit (.bl true)) (.call 15 .frz (.cons (.io 0 (.own .frz)) (.cons (.lst (.cons (.prim .sub (.cons (.call 14 .frz (.cons (.io 0 (.own .frz)) (.cons (.lit (.int 41)) .nil))) (.cons (.lit (.int 20)) .nil))) (.cons (.prim .add (.cons (.prim .pow (.cons (.lit (.int 10)) (.cons (.lit (.int 12)) .nil))) (.cons (.call 14 .frz (.cons (.io 0 (.own .frz)) (.cons (.lit (.int 99)) .nil))) .nil))) (.cons (.prim .sub (.cons (.prim .neg (.cons (.prim .pow (.cons (.lit (.int 10)) (.cons (.lit (.int 20)) .nil))) .nil)) (.cons (.call 14 .frz (.cons (.io 0 (.own .frz)) (.cons (.lit (.int 99)) .nil))) .nil))) .nil)))) .nil))) [22]))
    (.seq (.forIn (.tgTup (.cons (.tgName 19) (.cons (.tgName 20) .nil))) (.itVal (.var 2)) l36_1)
    (.seq (.asg 11 (.prim .item (.cons (.comp (.tgTup (.cons (.tgName 23) (.cons (.tgName 24) .nil))) (.itEnum (.var 2)) (.call 26 .frz (.cons (.prim .item (.cons (.brw 24 []) (.cons (.lit (.int 0)) .nil))) (.cons (.var 10) .nil))) (.var 23) [23, 24]) (.cons (.lit (.int 0)) .nil))))
    (.seq (.asg 12 (.call 29 .frz (.cons (.prim .item (.cons (.prim .item (.cons (.brw 2 []) (.cons (.brw 11 []) .nil))) (.cons (.lit (.int 1)) .nil))) (.cons (.var 10) .nil))))
    (.seq (.ife (.prim .not (.cons (.call 16 .frz (.cons (.lst (.cons (.call 8 .frz (.cons (.var 2) (.cons (.prim .list (.cons (.brw 10 []) .nil)) .nil))) (.cons (.callK 8 [1, 0] .nil (.cons (.prim .list (.cons (.brw 10 []) .nil)) (.cons (.var 2) .nil))) (.cons (.call 9 .frz (.cons (.var 2) (.cons (.prim .list (.cons (.brw 10 []) .nil)) .nil))) (.cons (.callK 9 [1, 0] .nil (.cons (.prim .list (.cons (.brw 10 []) .nil)) (.cons (.var 2) .nil))) .nil))))) (.cons (.lst (.cons (.var 11) (.cons (.var 11) (.cons (.var 12) (.cons (.var 12) .nil))))) .nil))) .nil)) (.seq (.ret (.lit (.bl false)))
    .skip) .skip)
    (.seq (.ife (.and (.prim .notN (.cons (.brw 12 []) .nil)) (.prim .gt (.cons (.prim .abs (.cons (.brw 12 []) .nil)) (.cons (.prim .add (.cons (.prim .mul (.cons (.prim .item (.cons (.brw 5 []) (.cons (.lit (.int 0)) .nil))) (.cons (.prim .max1 (.cons (.comp (.tgName 9) (.itVal (.var 10)) (.lit (.bl true)) (.prim .abs (.cons (.brw 9 []) .nil)) [9]) .nil)) .nil))) (.cons (.prim .item (.cons (.brw 5 []) (.cons (.lit (.int 1)) .nil))) .nil))) .nil)))) (.seq (.ret (.lit (.bl false)))
    .skip) .skip)
    .skip))))))
def s36 : PV.S := (.seq (.asg 1 (.prim .add (.cons (.lit (.int 1)) (.cons (.call 14 .frz (.cons (.io 0 (.own .frz)) (.cons (.lit (.int 3)) .nil))) .nil))))
    (.seq (.asg 2 (.call 33 .frz (.cons (.io 0 (.own .frz)) (.cons (.var 1) .nil))))
    (.seq (.asg 3 (.prim .repr (.cons (.brw 2 []) .nil)))
    (.seq (.asg 4 (.comp (.tgTup (.cons (.tgName 19) (.cons (.tgName 20) .nil))) (.itVal (.var 2)) (.lit (.bl true)) (.call 35 .frz (.cons (.var 20) .nil)) [19, 20]))
    (.seq (.asg 5 (.tup (.cons (.prim .max1 (.cons (.comp (.tgName 9) (.itVal (.var 4)) (.lit (.bl true)) (.prim .item (.cons (.brw 9 []) (.cons (.lit (.int 0)) .nil))) [9]) .nil)) (.cons (.prim .max1 (.cons (.comp (.tgName 9) (.itVal (.var 4)) (.lit (.bl true)) (.prim .item (.cons (.brw 9 []) (.cons (.lit (.int 1)) .nil))) [9]) .nil)) .nil))))
    (.seq (.asg 6 (.prim .sum (.cons (.comp (.tgTup (.cons (.tgName 19) (.cons (.tgName 20) .nil))) (.itVal (.var 2)) (.lit (.bl true)) (.call 34 .frz (.cons (.var 19) .nil)) [19, 20]) .nil)))
    (.seq (.ife (.prim .not (.cons (.call 16 .frz (.cons (.lst (.cons (.call 11 .frz (.cons (.var 2) .nil)) (.cons (.callK 11 [0] .nil (.cons (.var 2) .nil)) (.cons (.call 10 .frz (.cons (.var 2) .nil)) (.cons (.callK 10 [0] .nil (.cons (.var 2) .nil)) .nil))))) (.cons (.lst (.cons (.var 5) (.cons (.var 5) (.cons (.var 6) (.cons (.var 6) .nil))))) .nil))) .nil)) (.seq (.ret (.lit (.bl false)))
    .skip) .skip)
    (.seq (.forIn (.tgName 7) (.itRange1 (.lit (.int 12))) l36_2)
    (.seq (.par3 13 14 15 (.call 33 .frz (.cons (.io 0 (.own .frz)) (.cons (.lit (.int 0)) .nil))) (.call 33 .frz (.cons (.io 0 (.own .frz)) (.cons (.lit (.int 2)) .nil))) (.call 14 .frz (.cons (.io 0 (.own .frz)) (.cons (.lit (.int 50)) .nil))))
    (.seq (.par 16 17 (.tup (.cons (.lit (.str "prenex")) (.cons (.lit (.int 0)) (.cons (.tup (.cons (.lit (.str "some")) (.cons (.lit (.str "all")) (.cons (.lit (.str "some")) .nil)))) (.cons (.tup (.cons (.lit (.str "and")) (.cons (.tup .nil) .nil))) .nil))))) (.tup (.cons (.lit (.str "defence")) (.cons (.lit (.str "yes")) (.cons (.tup (.cons (.var 13) (.cons (.var 14) .nil))) .nil)))))
    (.seq (.asg 8 (.var 15))
    (.seq (.forIn (.tgName 9) (.itVal (.tup (.cons (.var 13) (.cons (.var 14) .nil)))) l36_0)
    (.seq (.ret (.and (.call 16 .frz (.cons (.lst (.cons (.call 12 .frz (.cons (.var 16) (.cons (.var 17) (.cons (.var 15) .nil)))) (.cons (.callK 12 [2, 1, 0] .nil (.cons (.var 15) (.cons (.var 17) (.cons (.var 16) .nil)))) .nil))) (.cons (.lst (.cons (.var 8) (.cons (.var 8) .nil))) .nil))) (.prim .eq (.cons (.prim .repr (.cons (.brw 2 []) .nil)) (.cons (.brw 3 []) .nil)))))
    .skip)))))))))))))
/-- law 0:script 1:k -/
def s37 : PV.S := (.seq (.ret (.prim .all (.cons (.comp (.tgName 1) (.itRange1 (.prim .max2 (.cons (.lit (.int 1)) (.cons (.prim .min2 (.cons (.lit (.int 3)) (.cons (.prim .len (.cons (.brw 0 []) .nil)) .nil))) .nil)))) (.lit (.bl true)) (.callM 36 .frz (.own .frz) (.call 13 (.own .frz) (.cons (.var 0) (.cons (.var 1) .nil))) .nil) [1]) .nil)))
    .skip)

def f0 : PV.FnC := ⟨[.frz, .frz], .frz, 5, s0⟩
def f1 : PV.FnC := ⟨[.frz, .frz], .frz, 3, s1⟩
def f2 : PV.FnC := ⟨[.frz, .frz], .frz, 4, s2⟩
def f3 : PV.FnC := ⟨[.frz], .frz, 4, s3⟩
def f4 : PV.FnC := ⟨[.frz, .frz], .frz, 2, s4⟩
def f5 : PV.FnC := ⟨[.frz], .frz, 3, s5⟩
def f6 : PV.FnC := ⟨[.frz], .frz, 5, s6⟩
def f7 : PV.FnC := ⟨[.frz, .frz], .frz, 10, s7⟩
def f8 : PV.FnC := ⟨[.frz, .frz], .frz, 5, s8⟩
def f9 : PV.FnC := ⟨[.frz, .frz], .frz, 2, s9⟩
def f10 : PV.FnC := ⟨[.frz], .frz, 3, s10⟩
def f11 : PV.FnC := ⟨[.frz], .frz, 6, s11⟩
def f12 : PV.FnC := ⟨[.frz, .frz, .frz], .frz, 9, s12⟩
def f13 : PV.FnC := ⟨[.frz, .frz], .own .frz, 4, s13⟩
def f14 : PV.FnC := ⟨[.own .frz, .frz], .frz, 3, s14⟩
def f15 : PV.FnC := ⟨[.own .frz, .frz], .frz, 2, s15⟩
def f16 : PV.FnC := ⟨[.frz, .frz], .frz, 4, s16⟩
def f17 : PV.FnC := ⟨[.frz], .frz, 1, s17⟩
def f18 : PV.FnC := ⟨[.frz], .frz, 1, s18⟩
def f19 : PV.FnC := ⟨[.own .frz, .frz, .frz], .frz, 6, s19⟩
def f20 : PV.FnC := ⟨[.own .frz, .frz, .frz], .frz, 3, s20⟩
def f21 : PV.FnC := ⟨[.own .frz, .frz, .frz, .frz], .frz, 5, s21⟩
def f22 : PV.FnC := ⟨[.frz, .frz], .frz, 2, s22⟩
def f23 : PV.FnC := ⟨[.frz], .frz, 7, s23⟩
def f24 : PV.FnC := ⟨[.frz, .frz, .frz], .frz, 4, s24⟩
def f25 : PV.FnC := ⟨[.frz, .frz, .frz, .frz], .frz, 11, s25⟩
def f26 : PV.FnC := ⟨[.frz, .frz], .frz, 7, s26⟩
def f27 : PV.FnC := ⟨[.own .frz, .frz, .frz, .frz], .frz, 8, s27⟩
def f28 : PV.FnC := ⟨[.frz, .frz], .frz, 4, s28⟩
def f29 : PV.FnC := ⟨[.frz, .frz], .frz, 13, s29⟩
def f30 : PV.FnC := ⟨[.frz, .frz], .frz, 4, s30⟩
def f31 : PV.FnC := ⟨[.own .frz, .frz], .frz, 5, s31⟩
def f32 : PV.FnC := ⟨[.own .frz, .frz], .frz, 7, s32⟩
def f33 : PV.FnC := ⟨[.own .frz, .frz], .frz, 4, s33⟩
def f34 : PV.FnC := ⟨[.frz], .frz, 2, s34⟩
def f35 : PV.FnC := ⟨[.frz], .frz, 5, s35⟩
def f36 : PV.FnC := ⟨[.own .frz], .frz, 26, s36⟩
def f37 : PV.FnC := ⟨[.frz], .frz, 2, s37⟩
def tb : PV.Tb := ⟨[f0, f1, f2, f3, f4, f5, f6, f7, f8, f9, f10, f11, f12, f13, f14, f15, f16, f17, f18, f19, f20, f21, f22, f23, f24, f25, f26, f27, f27, f29, f29, f31, f32, f33, f34, f35, f36, f37], []⟩
end K60
end

section
set_option Elab.async false
set_option maxRecDepth 100000
namespace K60
open PySem L2 PV
def top (i : Nat) : Stmt := PySem.Challenge.pw_defended_k60_values_and_reach.main.body.getD i (.Pass ⟨0, 0, 0, 0⟩)
abbrev own : PV.W := .own .frz
def h0 : PV.FE := { nm := "worth", qual := "worth", st := top 1, ws := [.frz, .frz], rw := .frz, ps := ["linear", "values"], N := ["linear", "values", "total", "v", "many"], body := .skip }
def h1 : PV.FE := { nm := "atom_holds", qual := "atom_holds", st := top 9, ws := [.frz, .frz], rw := .frz, ps := ["atom", "values"], N := ["atom", "values", "told"], body := .skip }
def h2 : PV.FE := { nm := "holds", qual := "holds", st := top 10, ws := [.frz, .frz], rw := .frz, ps := ["formula", "values"], N := ["formula", "values", "told", "one"], body := .skip }
def h3 : PV.FE := { nm := "atoms_of", qual := "atoms_of", st := top 11, ws := [.frz], rw := .frz, ps := ["formula"], N := ["formula", "found", "left", "one"], body := .skip }
def h4 : PV.FE := { nm := "divided", qual := "divided", st := top 16, ws := [.frz, .frz], rw := .frz, ps := ["number", "by"], N := ["number", "by"], body := .skip }
def h5 : PV.FE := { nm := "linear_reach", qual := "linear_reach", st := top 17, ws := [.frz], rw := .frz, ps := ["linear"], N := ["linear", "v", "many"], body := .skip }
def h6 : PV.FE := { nm := "reach_by", qual := "reach_by", st := top 18, ws := [.frz], rw := .frz, ps := ["value"], N := ["value", "some", "one", "factor", "add"], body := .skip }
def h7 : PV.FE := { nm := "value_at", qual := "value_at", st := top 19, ws := [.frz, .frz], rw := .frz, ps := ["value", "values"], N := ["value", "values", "told", "bound", "kind", "some", "rest", "period", "by", "one"], body := .skip }
def h8 : PV.FE := { nm := "piece_at", qual := "piece_at", st := top 20, ws := [.frz, .frz], rw := .frz, ps := ["plan", "values"], N := ["plan", "values", "at", "guard", "value"], body := .skip }
def h9 : PV.FE := { nm := "told_by", qual := "told_by", st := top 21, ws := [.frz, .frz], rw := .frz, ps := ["plan", "values"], N := ["plan", "values"], body := .skip }
def h10 : PV.FE := { nm := "plan_size", qual := "plan_size", st := top 22, ws := [.frz], rw := .frz, ps := ["plan"], N := ["plan", "guard", "value"], body := .skip }
def h11 : PV.FE := { nm := "plan_reach", qual := "plan_reach", st := top 23, ws := [.frz], rw := .frz, ps := ["plan"], N := ["plan", "some", "guard", "value", "factor", "add"], body := .skip }
def h12 : PV.FE := { nm := "defence_reach", qual := "defence_reach", st := top 24, ws := [.frz, .frz, .frz], rw := .frz, ps := ["prenex", "defence", "most"], N := ["prenex", "defence", "most", "kind", "one", "found", "plans", "factor", "add"], body := .skip }
def h13 : PV.FE := { nm := "_law_pot", qual := "_law_pot", st := top 26, ws := [.frz, .frz], rw := own, ps := ["script", "k"], N := ["script", "k", "cell", "some"], body := .skip }
def h14 : PV.FE := { nm := "_law_draw", qual := "_law_draw", st := top 27, ws := [own, .frz], rw := .frz, ps := ["pot", "sides"], N := ["pot", "sides", "digit"], body := .skip }
def h15 : PV.FE := { nm := "_law_pick", qual := "_law_pick", st := top 28, ws := [own, .frz], rw := .frz, ps := ["pot", "some"], N := ["pot", "some"], body := .skip }
def h16 : PV.FE := { nm := "_law_is", qual := "_law_is", st := top 29, ws := [.frz, .frz], rw := .frz, ps := ["told", "due"], N := ["told", "due", "alike", "at"], body := .skip }
def h17 : PV.FE := { nm := "_law_n", qual := "_law_n", st := top 30, ws := [.frz], rw := .frz, ps := ["number"], N := ["number"], body := .skip }
def h18 : PV.FE := { nm := "_law_v", qual := "_law_v", st := top 31, ws := [.frz], rw := .frz, ps := ["name"], N := ["name"], body := .skip }
def h19 : PV.FE := { nm := "_law_term", qual := "_law_term", st := top 32, ws := [own, .frz, .frz], rw := .frz, ps := ["pot", "names", "most"], N := ["pot", "names", "most", "term", "name", "times"], body := .skip }
def h20 : PV.FE := { nm := "_law_atom", qual := "_law_atom", st := top 33, ws := [own, .frz, .frz], rw := .frz, ps := ["pot", "names", "most"], N := ["pot", "names", "most"], body := .skip }
def h21 : PV.FE := { nm := "_law_bare", qual := "_law_bare", st := top 34, ws := [own, .frz, .frz, .frz], rw := .frz, ps := ["pot", "names", "most", "depth"], N := ["pot", "names", "most", "depth", "kind"], body := .skip }
def h22 : PV.FE := { nm := "_law_sum", qual := "_law_sum", st := top 35, ws := [.frz, .frz], rw := .frz, ps := ["t", "known"], N := ["t", "known"], body := .skip }
def h23 : PV.FE := { nm := "_law_made", qual := "_law_made", st := top 36, ws := [.frz], rw := .frz, ps := ["parts"], N := ["parts", "total", "sums", "linear", "times", "v", "many"], body := .skip }
def h24 : PV.FE := { nm := "_law_le", qual := "_law_le", st := top 37, ws := [.frz, .frz, .frz], rw := .frz, ps := ["near", "far", "add"], N := ["near", "far", "add", "late"], body := .skip }
def h25 : PV.FE := { nm := "_law_formula", qual := "_law_formula", st := top 38, ws := [.frz, .frz, .frz, .frz], rw := .frz, ps := ["f", "known", "is_denied", "next_one"], N := ["f", "known", "is_denied", "next_one", "within", "inner", "late", "near", "far", "word", "add"], body := .skip }
def h26 : PV.FE := { nm := "_law_is_so", qual := "_law_is_so", st := top 39, ws := [.frz, .frz], rw := .frz, ps := ["formula", "numbers"], N := ["formula", "numbers", "total", "told", "one", "v", "many"], body := .skip }
def h27 : PV.FE := { nm := "_law_drawn", qual := "_law_drawn", st := top 40, ws := [own, .frz, .frz, .frz], rw := .frz, ps := ["pot", "many", "most", "depth"], N := ["pot", "many", "most", "depth", "names", "known", "at", "name"], body := .skip }
def h28 : PV.FE := { nm := "_law_drawn", qual := "_law_drawn", st := top 40, ws := [own, .frz, .frz, .frz], rw := .frz, ps := ["pot", "many", "most", "depth"], N := ["pot", "many", "most", "depth", "names", "known", "at", "name"], body := .skip }
def h29 : PV.FE := { nm := "_law_value", qual := "_law_value", st := top 42, ws := [.frz, .frz], rw := .frz, ps := ["value", "numbers"], N := ["value", "numbers", "sums", "here", "kind", "some", "rest", "period", "by", "told", "one", "v", "many"], body := .skip }
def h30 : PV.FE := { nm := "_law_value", qual := "_law_value", st := top 42, ws := [.frz, .frz], rw := .frz, ps := ["value", "numbers"], N := ["value", "numbers", "sums", "here", "kind", "some", "rest", "period", "by", "told", "one", "v", "many"], body := .skip }
def h31 : PV.FE := { nm := "_law_linear", qual := "_law_linear", st := top 44, ws := [own, .frz], rw := .frz, ps := ["pot", "many"], N := ["pot", "many", "terms", "v", "times"], body := .skip }
def h32 : PV.FE := { nm := "_law_drawn_value", qual := "_law_drawn_value", st := top 45, ws := [own, .frz], rw := .frz, ps := ["pot", "many"], N := ["pot", "many", "by", "period", "rest", "some", "turn"], body := .skip }
def h33 : PV.FE := { nm := "_law_plan", qual := "_law_plan", st := top 46, ws := [own, .frz], rw := .frz, ps := ["pot", "many"], N := ["pot", "many", "pieces", "turn"], body := .skip }
def h34 : PV.FE := { nm := "_law_atoms", qual := "_law_atoms", st := top 47, ws := [.frz], rw := .frz, ps := ["formula"], N := ["formula", "one"], body := .skip }
def h35 : PV.FE := { nm := "_law_reach", qual := "_law_reach", st := top 48, ws := [.frz], rw := .frz, ps := ["value"], N := ["value", "some", "one", "v", "many"], body := .skip }
def h36 : PV.FE := { nm := "_law_right", qual := "_law_right", st := top 49, ws := [own], rw := .frz, ps := ["pot"], N := ["pot", "many", "plan", "kept", "reaches", "reach", "size", "turn", "found", "one", "numbers", "at", "told", "first", "second", "most", "form", "defence", "some", "guard", "value", "due", "v", "place", "piece", "late"], body := .skip }
def h37 : PV.FE := { nm := "law", qual := "law", st := top 50, ws := [.frz], rw := .frz, ps := ["script"], N := ["script", "k"], body := .skip }
def cs : List (Str × PV.D) := [("LE", (.str "le")), ("INTO", (.str "into")), ("OFF", (.str "off")), ("AND", (.str "and")), ("OR", (.str "or")), ("ATOMS", (.tup [(.str "le"), (.str "into"), (.str "off")])), ("OVER", (.str "over")), ("LOW", (.str "low")), ("YES_WORD", (.str "yes"))]
def bs : List Str := ["abs", "all", "any", "bool", "dict", "divmod", "enumerate", "int", "isinstance", "len", "list", "max", "min", "range", "repr", "sorted", "str", "sum", "tuple"]
def hs : List PV.FE := [h0, h1, h2, h3, h4, h5, h6, h7, h8, h9, h10, h11, h12, h13, h14, h15, h16, h17, h18, h19, h20, h21, h22, h23, h24, h25, h26, h27, h28, h29, h30, h31, h32, h33, h34, h35, h36, h37]
def pg : PV.Pg := ⟨hs, cs, bs⟩
end K60
namespace K60
open PySem L2 PV
theorem all_mk {w : World} {K : PySem.W.Frag} {h : Heap} {mg : Str → Option Value} {fa : Addr} {f0 f1 f2 f3 f4 f5 f6 f7 f8 f9 f10 f11 f12 f13 f14 f15 f16 f17 f18 f19 f20 f21 f22 f23 f24 f25 f26 f27 f28 f29 f30 f31 f32 f33 f34 f35 f36 f37 : Addr} {od0 an0 od1 an1 od2 an2 od3 an3 od4 an4 od5 an5 od6 an6 od7 an7 od8 an8 od9 an9 od10 an10 od11 an11 od12 an12 od13 an13 od14 an14 od15 an15 od16 an16 od17 an17 od18 an18 od19 an19 od20 an20 od21 an21 od22 an22 od23 an23 od24 an24 od25 an25 od26 an26 od27 an27 od28 an28 od29 an29 od30 an30 od31 an31 od32 an32 od33 an33 od34 an34 od35 an35 od36 an36 od37 an37 : Option Addr} {sl0 sl1 sl2 sl3 sl4 sl5 sl6 sl7 sl8 sl9 sl10 sl11 sl12 sl13 sl14 sl15 sl16 sl17 sl18 sl19 sl20 sl21 sl22 sl23 sl24 sl25 sl26 sl27 sl28 sl29 sl30 sl31 sl32 sl33 sl34 sl35 sl36 sl37 : Array (Option Value)} {oc0 kV0 dc0 pm0 cd0 ct0 oc1 kV1 dc1 pm1 cd1 ct1 oc2 kV2 dc2 pm2 cd2 ct2 oc3 kV3 dc3 pm3 cd3 ct3 oc4 kV4 dc4 pm4 cd4 ct4 oc5 kV5 dc5 pm5 cd5 ct5 oc6 kV6 dc6 pm6 cd6 ct6 oc7 kV7 dc7 pm7 cd7 ct7 oc8 kV8 dc8 pm8 cd8 ct8 oc9 kV9 dc9 pm9 cd9 ct9 oc10 kV10 dc10 pm10 cd10 ct10 oc11 kV11 dc11 pm11 cd11 ct11 oc12 kV12 dc12 pm12 cd12 ct12 oc13 kV13 dc13 pm13 cd13 ct13 oc14 kV14 dc14 pm14 cd14 ct14 oc15 kV15 dc15 pm15 cd15 ct15 oc16 kV16 dc16 pm16 cd16 ct16 oc17 kV17 dc17 pm17 cd17 ct17 oc18 kV18 dc18 pm18 cd18 ct18 oc19 kV19 dc19 pm19 cd19 ct19 oc20 kV20 dc20 pm20 cd20 ct20 oc21 kV21 dc21 pm21 cd21 ct21 oc22 kV22 dc22 pm22 cd22 ct22 oc23 kV23 dc23 pm23 cd23 ct23 oc24 kV24 dc24 pm24 cd24 ct24 oc25 kV25 dc25 pm25 cd25 ct25 oc26 kV26 dc26 pm26 cd26 ct26 oc27 kV27 dc27 pm27 cd27 ct27 oc28 kV28 dc28 pm28 cd28 ct28 oc29 kV29 dc29 pm29 cd29 ct29 oc30 kV30 dc30 pm30 cd30 ct30 oc31 kV31 dc31 pm31 cd31 ct31 oc32 kV32 dc32 pm32 cd32 ct32 oc33 kV33 dc33 pm33 cd33 ct33 oc34 kV34 dc34 pm34 cd34 ct34 oc35 kV35 dc35 pm35 cd35 ct35 oc36 kV36 dc36 pm36 cd36 ct36 oc37 kV37 dc37 pm37 cd37 ct37 : Value} {t0 : Tok} {t1 : Tok} {t2 : Tok} {t3 : Tok} {t4 : Tok} {z5 : Addr} {zd5 : Option Addr} {zn5 : Nat} {zs5 : Array (Option Value)} {u5_0 u5_1 u5_2 : Tok} {t6 : Tok} {t7 : Tok} {t8 : Tok} (X : K.In h) (G : h.Ns mainGlobals mg) (hfa : mg "law" = some (.ref fa))
    (a0 : PySem.W.nsIn K mainGlobals "worth" = some (some (.ref f0))) (l0 : K.lookup f0 = some ⟨oc0, od0, .func (PySem.W.fnOf "worth" "worth" (defArgs (top 1)) (defBody (top 1)) (defScope (top 1)) .none kV0 dc0 pm0 an0 cd0 ct0), sl0⟩) (c0 : PySem.W.codeIn K cd0 "worth" = true) (k0 : PySem.W.keepIn K (.ref f0) = true)
    (a1 : PySem.W.nsIn K mainGlobals "atom_holds" = some (some (.ref f1))) (l1 : K.lookup f1 = some ⟨oc1, od1, .func (PySem.W.fnOf "atom_holds" "atom_holds" (defArgs (top 9)) (defBody (top 9)) (defScope (top 9)) .none kV1 dc1 pm1 an1 cd1 ct1), sl1⟩) (c1 : PySem.W.codeIn K cd1 "atom_holds" = true) (k1 : PySem.W.keepIn K (.ref f1) = true)
    (a2 : PySem.W.nsIn K mainGlobals "holds" = some (some (.ref f2))) (l2 : K.lookup f2 = some ⟨oc2, od2, .func (PySem.W.fnOf "holds" "holds" (defArgs (top 10)) (defBody (top 10)) (defScope (top 10)) .none kV2 dc2 pm2 an2 cd2 ct2), sl2⟩) (c2 : PySem.W.codeIn K cd2 "holds" = true) (k2 : PySem.W.keepIn K (.ref f2) = true)
    (a3 : PySem.W.nsIn K mainGlobals "atoms_of" = some (some (.ref f3))) (l3 : K.lookup f3 = some ⟨oc3, od3, .func (PySem.W.fnOf "atoms_of" "atoms_of" (defArgs (top 11)) (defBody (top 11)) (defScope (top 11)) .none kV3 dc3 pm3 an3 cd3 ct3), sl3⟩) (c3 : PySem.W.codeIn K cd3 "atoms_of" = true) (k3 : PySem.W.keepIn K (.ref f3) = true)
    (a4 : PySem.W.nsIn K mainGlobals "divided" = some (some (.ref f4))) (l4 : K.lookup f4 = some ⟨oc4, od4, .func (PySem.W.fnOf "divided" "divided" (defArgs (top 16)) (defBody (top 16)) (defScope (top 16)) .none kV4 dc4 pm4 an4 cd4 ct4), sl4⟩) (c4 : PySem.W.codeIn K cd4 "divided" = true) (k4 : PySem.W.keepIn K (.ref f4) = true)
    (a5 : PySem.W.nsIn K mainGlobals "linear_reach" = some (some (.ref f5))) (l5 : K.lookup f5 = some ⟨oc5, od5, .func (PySem.W.fnOf "linear_reach" "linear_reach" (defArgs (top 17)) (defBody (top 17)) (defScope (top 17)) .none kV5 dc5 pm5 an5 cd5 ct5), sl5⟩) (c5 : PySem.W.codeIn K cd5 "linear_reach" = true) (k5 : PySem.W.keepIn K (.ref f5) = true)
    (a6 : PySem.W.nsIn K mainGlobals "reach_by" = some (some (.ref f6))) (l6 : K.lookup f6 = some ⟨oc6, od6, .func (PySem.W.fnOf "reach_by" "reach_by" (defArgs (top 18)) (defBody (top 18)) (defScope (top 18)) .none kV6 dc6 pm6 an6 cd6 ct6), sl6⟩) (c6 : PySem.W.codeIn K cd6 "reach_by" = true) (k6 : PySem.W.keepIn K (.ref f6) = true)
    (a7 : PySem.W.nsIn K mainGlobals "value_at" = some (some (.ref f7))) (l7 : K.lookup f7 = some ⟨oc7, od7, .func (PySem.W.fnOf "value_at" "value_at" (defArgs (top 19)) (defBody (top 19)) (defScope (top 19)) .none kV7 dc7 pm7 an7 cd7 ct7), sl7⟩) (c7 : PySem.W.codeIn K cd7 "value_at" = true) (k7 : PySem.W.keepIn K (.ref f7) = true)
    (a8 : PySem.W.nsIn K mainGlobals "piece_at" = some (some (.ref f8))) (l8 : K.lookup f8 = some ⟨oc8, od8, .func (PySem.W.fnOf "piece_at" "piece_at" (defArgs (top 20)) (defBody (top 20)) (defScope (top 20)) .none kV8 dc8 pm8 an8 cd8 ct8), sl8⟩) (c8 : PySem.W.codeIn K cd8 "piece_at" = true) (k8 : PySem.W.keepIn K (.ref f8) = true)
    (a9 : PySem.W.nsIn K mainGlobals "told_by" = some (some (.ref f9))) (l9 : K.lookup f9 = some ⟨oc9, od9, .func (PySem.W.fnOf "told_by" "told_by" (defArgs (top 21)) (defBody (top 21)) (defScope (top 21)) .none kV9 dc9 pm9 an9 cd9 ct9), sl9⟩) (c9 : PySem.W.codeIn K cd9 "told_by" = true) (k9 : PySem.W.keepIn K (.ref f9) = true)
    (a10 : PySem.W.nsIn K mainGlobals "plan_size" = some (some (.ref f10))) (l10 : K.lookup f10 = some ⟨oc10, od10, .func (PySem.W.fnOf "plan_size" "plan_size" (defArgs (top 22)) (defBody (top 22)) (defScope (top 22)) .none kV10 dc10 pm10 an10 cd10 ct10), sl10⟩) (c10 : PySem.W.codeIn K cd10 "plan_size" = true) (k10 : PySem.W.keepIn K (.ref f10) = true)
    (a11 : PySem.W.nsIn K mainGlobals "plan_reach" = some (some (.ref f11))) (l11 : K.lookup f11 = some ⟨oc11, od11, .func (PySem.W.fnOf "plan_reach" "plan_reach" (defArgs (top 23)) (defBody (top 23)) (defScope (top 23)) .none kV11 dc11 pm11 an11 cd11 ct11), sl11⟩) (c11 : PySem.W.codeIn K cd11 "plan_reach" = true) (k11 : PySem.W.keepIn K (.ref f11) = true)
    (a12 : PySem.W.nsIn K mainGlobals "defence_reach" = some (some (.ref f12))) (l12 : K.lookup f12 = some ⟨oc12, od12, .func (PySem.W.fnOf "defence_reach" "defence_reach" (defArgs (top 24)) (defBody (top 24)) (defScope (top 24)) .none kV12 dc12 pm12 an12 cd12 ct12), sl12⟩) (c12 : PySem.W.codeIn K cd12 "defence_reach" = true) (k12 : PySem.W.keepIn K (.ref f12) = true)
    (a13 : PySem.W.nsIn K mainGlobals "_law_pot" = some (some (.ref f13))) (l13 : K.lookup f13 = some ⟨oc13, od13, .func (PySem.W.fnOf "_law_pot" "_law_pot" (defArgs (top 26)) (defBody (top 26)) (defScope (top 26)) .none kV13 dc13 pm13 an13 cd13 ct13), sl13⟩) (c13 : PySem.W.codeIn K cd13 "_law_pot" = true) (k13 : PySem.W.keepIn K (.ref f13) = true)
    (a14 : PySem.W.nsIn K mainGlobals "_law_draw" = some (some (.ref f14))) (l14 : K.lookup f14 = some ⟨oc14, od14, .func (PySem.W.fnOf "_law_draw" "_law_draw" (defArgs (top 27)) (defBody (top 27)) (defScope (top 27)) .none kV14 dc14 pm14 an14 cd14 ct14), sl14⟩) (c14 : PySem.W.codeIn K cd14 "_law_draw" = true) (k14 : PySem.W.keepIn K (.ref f14) = true)
    (a15 : PySem.W.nsIn K mainGlobals "_law_pick" = some (some (.ref f15))) (l15 : K.lookup f15 = some ⟨oc15, od15, .func (PySem.W.fnOf "_law_pick" "_law_pick" (defArgs (top 28)) (defBody (top 28)) (defScope (top 28)) .none kV15 dc15 pm15 an15 cd15 ct15), sl15⟩) (c15 : PySem.W.codeIn K cd15 "_law_pick" = true) (k15 : PySem.W.keepIn K (.ref f15) = true)
    (a16 : PySem.W.nsIn K mainGlobals "_law_is" = some (some (.ref f16))) (l16 : K.lookup f16 = some ⟨oc16, od16, .func (PySem.W.fnOf "_law_is" "_law_is" (defArgs (top 29)) (defBody (top 29)) (defScope (top 29)) .none kV16 dc16 pm16 an16 cd16 ct16), sl16⟩) (c16 : PySem.W.codeIn K cd16 "_law_is" = true) (k16 : PySem.W.keepIn K (.ref f16) = true)
    (a17 : PySem.W.nsIn K mainGlobals "_law_n" = some (some (.ref f17))) (l17 : K.lookup f17 = some ⟨oc17, od17, .func (PySem.W.fnOf "_law_n" "_law_n" (defArgs (top 30)) (defBody (top 30)) (defScope (top 30)) .none kV17 dc17 pm17 an17 cd17 ct17), sl17⟩) (c17 : PySem.W.codeIn K cd17 "_law_n" = true) (k17 : PySem.W.keepIn K (.ref f17) = true)
    (a18 : PySem.W.nsIn K mainGlobals "_law_v" = some (some (.ref f18))) (l18 : K.lookup f18 = some ⟨oc18, od18, .func (PySem.W.fnOf "_law_v" "_law_v" (defArgs (top 31)) (defBody (top 31)) (defScope (top 31)) .none kV18 dc18 pm18 an18 cd18 ct18), sl18⟩) (c18 : PySem.W.codeIn K cd18 "_law_v" = true) (k18 : PySem.W.keepIn K (.ref f18) = true)
    (a19 : PySem.W.nsIn K mainGlobals "_law_term" = some (some (.ref f19))) (l19 : K.lookup f19 = some ⟨oc19, od19, .func (PySem.W.fnOf "_law_term" "_law_term" (defArgs (top 32)) (defBody (top 32)) (defScope (top 32)) .none kV19 dc19 pm19 an19 cd19 ct19), sl19⟩) (c19 : PySem.W.codeIn K cd19 "_law_term" = true) (k19 : PySem.W.keepIn K (.ref f19) = true)
    (a20 : PySem.W.nsIn K mainGlobals "_law_atom" = some (some (.ref f20))) (l20 : K.lookup f20 = some ⟨oc20, od20, .func (PySem.W.fnOf "_law_atom" "_law_atom" (defArgs (top 33)) (defBody (top 33)) (defScope (top 33)) .none kV20 dc20 pm20 an20 cd20 ct20), sl20⟩) (c20 : PySem.W.codeIn K cd20 "_law_atom" = true) (k20 : PySem.W.keepIn K (.ref f20) = true)
    (a21 : PySem.W.nsIn K mainGlobals "_law_bare" = some (some (.ref f21))) (l21 : K.lookup f21 = some ⟨oc21, od21, .func (PySem.W.fnOf "_law_bare" "_law_bare" (defArgs (top 34)) (defBody (top 34)) (defScope (top 34)) .none kV21 dc21 pm21 an21 cd21 ct21), sl21⟩) (c21 : PySem.W.codeIn K cd21 "_law_bare" = true) (k21 : PySem.W.keepIn K (.ref f21) = true)
    (a22 : PySem.W.nsIn K mainGlobals "_law_sum" = some (some (.ref f22))) (l22 : K.lookup f22 = some ⟨oc22, od22, .func (PySem.W.fnOf "_law_sum" "_law_sum" (defArgs (top 35)) (defBody (top 35)) (defScope (top 35)) .none kV22 dc22 pm22 an22 cd22 ct22), sl22⟩) (c22 : PySem.W.codeIn K cd22 "_law_sum" = true) (k22 : PySem.W.keepIn K (.ref f22) = true)
    (a23 : PySem.W.nsIn K mainGlobals "_law_made" = some (some (.ref f23))) (l23 : K.lookup f23 = some ⟨oc23, od23, .func (PySem.W.fnOf "_law_made" "_law_made" (defArgs (top 36)) (defBody (top 36)) (defScope (top 36)) .none kV23 dc23 pm23 an23 cd23 ct23), sl23⟩) (c23 : PySem.W.codeIn K cd23 "_law_made" = true) (k23 : PySem.W.keepIn K (.ref f23) = true)
    (a24 : PySem.W.nsIn K mainGlobals "_law_le" = some (some (.ref f24))) (l24 : K.lookup f24 = some ⟨oc24, od24, .func (PySem.W.fnOf "_law_le" "_law_le" (defArgs (top 37)) (defBody (top 37)) (defScope (top 37)) .none kV24 dc24 pm24 an24 cd24 ct24), sl24⟩) (c24 : PySem.W.codeIn K cd24 "_law_le" = true) (k24 : PySem.W.keepIn K (.ref f24) = true)
    (a25 : PySem.W.nsIn K mainGlobals "_law_formula" = some (some (.ref f25))) (l25 : K.lookup f25 = some ⟨oc25, od25, .func (PySem.W.fnOf "_law_formula" "_law_formula" (defArgs (top 38)) (defBody (top 38)) (defScope (top 38)) .none kV25 dc25 pm25 an25 cd25 ct25), sl25⟩) (c25 : PySem.W.codeIn K cd25 "_law_formula" = true) (k25 : PySem.W.keepIn K (.ref f25) = true)
    (a26 : PySem.W.nsIn K mainGlobals "_law_is_so" = some (some (.ref f26))) (l26 : K.lookup f26 = some ⟨oc26, od26, .func (PySem.W.fnOf "_law_is_so" "_law_is_so" (defArgs (top 39)) (defBody (top 39)) (defScope (top 39)) .none kV26 dc26 pm26 an26 cd26 ct26), sl26⟩) (c26 : PySem.W.codeIn K cd26 "_law_is_so" = true) (k26 : PySem.W.keepIn K (.ref f26) = true)
    (a27 : PySem.W.nsIn K mainGlobals "_law_drawn" = some (some (.ref f27))) (l27 : K.lookup f27 = some ⟨oc27, od27, .func (PySem.W.fnOf "_law_drawn" "_law_drawn" (defArgs (top 40)) (defBody (top 40)) (defScope (top 40)) .none kV27 dc27 pm27 an27 cd27 ct27), sl27⟩) (c27 : PySem.W.codeIn K cd27 "_law_drawn" = true) (k27 : PySem.W.keepIn K (.ref f27) = true)
    (a28 : PySem.W.nsIn K mainGlobals "_law_drawn" = some (some (.ref f28))) (l28 : K.lookup f28 = some ⟨oc28, od28, .func (PySem.W.fnOf "_law_drawn" "_law_drawn" (defArgs (top 40)) (defBody (top 40)) (defScope (top 40)) .none kV28 dc28 pm28 an28 cd28 ct28), sl28⟩) (c28 : PySem.W.codeIn K cd28 "_law_drawn" = true) (k28 : PySem.W.keepIn K (.ref f28) = true)
    (a29 : PySem.W.nsIn K mainGlobals "_law_value" = some (some (.ref f29))) (l29 : K.lookup f29 = some ⟨oc29, od29, .func (PySem.W.fnOf "_law_value" "_law_value" (defArgs (top 42)) (defBody (top 42)) (defScope (top 42)) .none kV29 dc29 pm29 an29 cd29 ct29), sl29⟩) (c29 : PySem.W.codeIn K cd29 "_law_value" = true) (k29 : PySem.W.keepIn K (.ref f29) = true)
    (a30 : PySem.W.nsIn K mainGlobals "_law_value" = some (some (.ref f30))) (l30 : K.lookup f30 = some ⟨oc30, od30, .func (PySem.W.fnOf "_law_value" "_law_value" (defArgs (top 42)) (defBody (top 42)) (defScope (top 42)) .none kV30 dc30 pm30 an30 cd30 ct30), sl30⟩) (c30 : PySem.W.codeIn K cd30 "_law_value" = true) (k30 : PySem.W.keepIn K (.ref f30) = true)
    (a31 : PySem.W.nsIn K mainGlobals "_law_linear" = some (some (.ref f31))) (l31 : K.lookup f31 = some ⟨oc31, od31, .func (PySem.W.fnOf "_law_linear" "_law_linear" (defArgs (top 44)) (defBody (top 44)) (defScope (top 44)) .none kV31 dc31 pm31 an31 cd31 ct31), sl31⟩) (c31 : PySem.W.codeIn K cd31 "_law_linear" = true) (k31 : PySem.W.keepIn K (.ref f31) = true)
    (a32 : PySem.W.nsIn K mainGlobals "_law_drawn_value" = some (some (.ref f32))) (l32 : K.lookup f32 = some ⟨oc32, od32, .func (PySem.W.fnOf "_law_drawn_value" "_law_drawn_value" (defArgs (top 45)) (defBody (top 45)) (defScope (top 45)) .none kV32 dc32 pm32 an32 cd32 ct32), sl32⟩) (c32 : PySem.W.codeIn K cd32 "_law_drawn_value" = true) (k32 : PySem.W.keepIn K (.ref f32) = true)
    (a33 : PySem.W.nsIn K mainGlobals "_law_plan" = some (some (.ref f33))) (l33 : K.lookup f33 = some ⟨oc33, od33, .func (PySem.W.fnOf "_law_plan" "_law_plan" (defArgs (top 46)) (defBody (top 46)) (defScope (top 46)) .none kV33 dc33 pm33 an33 cd33 ct33), sl33⟩) (c33 : PySem.W.codeIn K cd33 "_law_plan" = true) (k33 : PySem.W.keepIn K (.ref f33) = true)
    (a34 : PySem.W.nsIn K mainGlobals "_law_atoms" = some (some (.ref f34))) (l34 : K.lookup f34 = some ⟨oc34, od34, .func (PySem.W.fnOf "_law_atoms" "_law_atoms" (defArgs (top 47)) (defBody (top 47)) (defScope (top 47)) .none kV34 dc34 pm34 an34 cd34 ct34), sl34⟩) (c34 : PySem.W.codeIn K cd34 "_law_atoms" = true) (k34 : PySem.W.keepIn K (.ref f34) = true)
    (a35 : PySem.W.nsIn K mainGlobals "_law_reach" = some (some (.ref f35))) (l35 : K.lookup f35 = some ⟨oc35, od35, .func (PySem.W.fnOf "_law_reach" "_law_reach" (defArgs (top 48)) (defBody (top 48)) (defScope (top 48)) .none kV35 dc35 pm35 an35 cd35 ct35), sl35⟩) (c35 : PySem.W.codeIn K cd35 "_law_reach" = true) (k35 : PySem.W.keepIn K (.ref f35) = true)
    (a36 : PySem.W.nsIn K mainGlobals "_law_right" = some (some (.ref f36))) (l36 : K.lookup f36 = some ⟨oc36, od36, .func (PySem.W.fnOf "_law_right" "_law_right" (defArgs (top 49)) (defBody (top 49)) (defScope (top 49)) .none kV36 dc36 pm36 an36 cd36 ct36), sl36⟩) (c36 : PySem.W.codeIn K cd36 "_law_right" = true) (k36 : PySem.W.keepIn K (.ref f36) = true)
    (a37 : PySem.W.nsIn K mainGlobals "law" = some (some (.ref f37))) (l37 : K.lookup f37 = some ⟨oc37, od37, .func (PySem.W.fnOf "law" "law" (defArgs (top 50)) (defBody (top 50)) (defScope (top 50)) .none kV37 dc37 pm37 an37 cd37 ct37), sl37⟩) (c37 : PySem.W.codeIn K cd37 "law" = true) (k37 : PySem.W.keepIn K (.ref f37) = true)
    (q0 : PySem.W.nsIn K mainGlobals "LE" = some (some (.str "le" t0)))
    (q1 : PySem.W.nsIn K mainGlobals "INTO" = some (some (.str "into" t1)))
    (q2 : PySem.W.nsIn K mainGlobals "OFF" = some (some (.str "off" t2)))
    (q3 : PySem.W.nsIn K mainGlobals "AND" = some (some (.str "and" t3)))
    (q4 : PySem.W.nsIn K mainGlobals "OR" = some (some (.str "or" t4)))
    (q5 : PySem.W.nsIn K mainGlobals "ATOMS" = some (some (.ref z5))) (r5 : K.lookup z5 = some ⟨.type "tuple", zd5, .seq #[.str "le" u5_0, .str "into" u5_1, .str "off" u5_2] zn5, zs5⟩)
    (q6 : PySem.W.nsIn K mainGlobals "OVER" = some (some (.str "over" t6)))
    (q7 : PySem.W.nsIn K mainGlobals "LOW" = some (some (.str "low" t7)))
    (q8 : PySem.W.nsIn K mainGlobals "YES_WORD" = some (some (.str "yes" t8)))
    (b0 : PySem.W.nsIn K mainGlobals "abs" = some none)
    (b1 : PySem.W.nsIn K mainGlobals "all" = some none)
    (b2 : PySem.W.nsIn K mainGlobals "any" = some none)
    (b3 : PySem.W.nsIn K mainGlobals "bool" = some none)
    (b4 : PySem.W.nsIn K mainGlobals "dict" = some none)
    (b5 : PySem.W.nsIn K mainGlobals "divmod" = some none)
    (b6 : PySem.W.nsIn K mainGlobals "enumerate" = some none)
    (b7 : PySem.W.nsIn K mainGlobals "int" = some none)
    (b8 : PySem.W.nsIn K mainGlobals "isinstance" = some none)
    (b9 : PySem.W.nsIn K mainGlobals "len" = some none)
    (b10 : PySem.W.nsIn K mainGlobals "list" = some none)
    (b11 : PySem.W.nsIn K mainGlobals "max" = some none)
    (b12 : PySem.W.nsIn K mainGlobals "min" = some none)
    (b13 : PySem.W.nsIn K mainGlobals "range" = some none)
    (b14 : PySem.W.nsIn K mainGlobals "repr" = some none)
    (b15 : PySem.W.nsIn K mainGlobals "sorted" = some none)
    (b16 : PySem.W.nsIn K mainGlobals "str" = some none)
    (b17 : PySem.W.nsIn K mainGlobals "sum" = some none)
    (b18 : PySem.W.nsIn K mainGlobals "tuple" = some none) :
    ∃ (g : PV.Gx) (fd : Nat → FuncData), PV.Facts pg g K mg fd ∧ g.fa 37 = fa := by
  refine ⟨{ K := K, fa := fun k => ([f0, f1, f2, f3, f4, f5, f6, f7, f8, f9, f10, f11, f12, f13, f14, f15, f16, f17, f18, f19, f20, f21, f22, f23, f24, f25, f26, f27, f28, f29, f30, f31, f32, f33, f34, f35, f36, f37] : List Addr).getD k 0, xc := fun _ => .none, xf := fun _ => [] }, fun k => match k with
    | 0 => PySem.W.fnOf "worth" "worth" (defArgs (top 1)) (defBody (top 1)) (defScope (top 1)) .none kV0 dc0 pm0 an0 cd0 ct0
    | 1 => PySem.W.fnOf "atom_holds" "atom_holds" (defArgs (top 9)) (defBody (top 9)) (defScope (top 9)) .none kV1 dc1 pm1 an1 cd1 ct1
    | 2 => PySem.W.fnOf "holds" "holds" (defArgs (top 10)) (defBody (top 10)) (defScope (top 10)) .none kV2 dc2 pm2 an2 cd2 ct2
    | 3 => PySem.W.fnOf "atoms_of" "atoms_of" (defArgs (top 11)) (defBody (top 11)) (defScope (top 11)) .none kV3 dc3 pm3 an3 cd3 ct3
    | 4 => PySem.W.fnOf "divided" "divided" (defArgs (top 16)) (defBody (top 16)) (defScope (top 16)) .none kV4 dc4 pm4 an4 cd4 ct4
    | 5 => PySem.W.fnOf "linear_reach" "linear_reach" (defArgs (top 17)) (defBody (top 17)) (defScope (top 17)) .none kV5 dc5 pm5 an5 cd5 ct5
    | 6 => PySem.W.fnOf "reach_by" "reach_by" (defArgs (top 18)) (defBody (top 18)) (defScope (top 18)) .none kV6 dc6 pm6 an6 cd6 ct6
    | 7 => PySem.W.fnOf "value_at" "value_at" (defArgs (top 19)) (defBody (top 19)) (defScope (top 19)) .none kV7 dc7 pm7 an7 cd7 ct7
    | 8 => PySem.W.fnOf "piece_at" "piece_at" (defArgs (top 20)) (defBody (top 20)) (defScope (top 20)) .none kV8 dc8 pm8 an8 cd8 ct8
    | 9 => PySem.W.fnOf "told_by" "told_by" (defArgs (top 21)) (defBody (top 21)) (defScope (top 21)) .none kV9 dc9 pm9 an9 cd9 ct9
    | 10 => PySem.W.fnOf "plan_size" "plan_size" (defArgs (top 22)) (defBody (top 22)) (defScope (top 22)) .none kV10 dc10 pm10 an10 cd10 ct10
    | 11 => PySem.W.fnOf "plan_reach" "plan_reach" (defArgs (top 23)) (defBody (top 23)) (defScope (top 23)) .none kV11 dc11 pm11 an11 cd11 ct11
    | 12 => PySem.W.fnOf "defence_reach" "defence_reach" (defArgs (top 24)) (defBody (top 24)) (defScope (top 24)) .none kV12 dc12 pm12 an12 cd12 ct12
    | 13 => PySem.W.fnOf "_law_pot" "_law_pot" (defArgs (top 26)) (defBody (top 26)) (defScope (top 26)) .none kV13 dc13 pm13 an13 cd13 ct13
    | 14 => PySem.W.fnOf "_law_draw" "_law_draw" (defArgs (top 27)) (defBody (top 27)) (defScope (top 27)) .none kV14 dc14 pm14 an14 cd14 ct14
    | 15 => PySem.W.fnOf "_law_pick" "_law_pick" (defArgs (top 28)) (defBody (top 28)) (defScope (top 28)) .none kV15 dc15 pm15 an15 cd15 ct15
    | 16 => PySem.W.fnOf "_law_is" "_law_is" (defArgs (top 29)) (defBody (top 29)) (defScope (top 29)) .none kV16 dc16 pm16 an16 cd16 ct16
    | 17 => PySem.W.fnOf "_law_n" "_law_n" (defArgs (top 30)) (defBody (top 30)) (defScope (top 30)) .none kV17 dc17 pm17 an17 cd17 ct17
    | 18 => PySem.W.fnOf "_law_v" "_law_v" (defArgs (top 31)) (defBody (top 31)) (defScope (top 31)) .none kV18 dc18 pm18 an18 cd18 ct18
    | 19 => PySem.W.fnOf "_law_term" "_law_term" (defArgs (top 32)) (defBody (top 32)) (defScope (top 32)) .none kV19 dc19 pm19 an19 cd19 ct19
    | 20 => PySem.W.fnOf "_law_atom" "_law_atom" (defArgs (top 33)) (defBody (top 33)) (defScope (top 33)) .none kV20 dc20 pm20 an20 cd20 ct20
    | 21 => PySem.W.fnOf "_law_bare" "_law_bare" (defArgs (top 34)) (defBody (top 34)) (defScope (top 34)) .none kV21 dc21 pm21 an21 cd21 ct21
    | 22 => PySem.W.fnOf "_law_sum" "_law_sum" (defArgs (top 35)) (defBody (top 35)) (defScope (top 35)) .none kV22 dc22 pm22 an22 cd22 ct22
    | 23 => PySem.W.fnOf "_law_made" "_law_made" (defArgs (top 36)) (defBody (top 36)) (defScope (top 36)) .none kV23 dc23 pm23 an23 cd23 ct23
    | 24 => PySem.W.fnOf "_law_le" "_law_le" (defArgs (top 37)) (defBody (top 37)) (defScope (top 37)) .none kV24 dc24 pm24 an24 cd24 ct24
    | 25 => PySem.W.fnOf "_law_formula" "_law_formula" (defArgs (top 38)) (defBody (top 38)) (defScope (top 38)) .none kV25 dc25 pm25 an25 cd25 ct25
    | 26 => PySem.W.fnOf "_law_is_so" "_law_is_so" (defArgs (top 39)) (defBody (top 39)) (defScope (top 39)) .none kV26 dc26 pm26 an26 cd26 ct26
    | 27 => PySem.W.fnOf "_law_drawn" "_law_drawn" (defArgs (top 40)) (defBody (top 40)) (defScope (top 40)) .none kV27 dc27 pm27 an27 cd27 ct27
    | 28 => PySem.W.fnOf "_law_drawn" "_law_drawn" (defArgs (top 40)) (defBody (top 40)) (defScope (top 40)) .none kV28 dc28 pm28 an28 cd28 ct28
    | 29 => PySem.W.fnOf "_law_value" "_law_value" (defArgs (top 42)) (defBody (top 42)) (defScope (top 42)) .none kV29 dc29 pm29 an29 cd29 ct29
    | 30 => PySem.W.fnOf "_law_value" "_law_value" (defArgs (top 42)) (defBody (top 42)) (defScope (top 42)) .none kV30 dc30 pm30 an30 cd30 ct30
    | 31 => PySem.W.fnOf "_law_linear" "_law_linear" (defArgs (top 44)) (defBody (top 44)) (defScope (top 44)) .none kV31 dc31 pm31 an31 cd31 ct31
    | 32 => PySem.W.fnOf "_law_drawn_value" "_law_drawn_value" (defArgs (top 45)) (defBody (top 45)) (defScope (top 45)) .none kV32 dc32 pm32 an32 cd32 ct32
    | 33 => PySem.W.fnOf "_law_plan" "_law_plan" (defArgs (top 46)) (defBody (top 46)) (defScope (top 46)) .none kV33 dc33 pm33 an33 cd33 ct33
    | 34 => PySem.W.fnOf "_law_atoms" "_law_atoms" (defArgs (top 47)) (defBody (top 47)) (defScope (top 47)) .none kV34 dc34 pm34 an34 cd34 ct34
    | 35 => PySem.W.fnOf "_law_reach" "_law_reach" (defArgs (top 48)) (defBody (top 48)) (defScope (top 48)) .none kV35 dc35 pm35 an35 cd35 ct35
    | 36 => PySem.W.fnOf "_law_right" "_law_right" (defArgs (top 49)) (defBody (top 49)) (defScope (top 49)) .none kV36 dc36 pm36 an36 cd36 ct36
    | 37 => PySem.W.fnOf "law" "law" (defArgs (top 50)) (defBody (top 50)) (defScope (top 50)) .none kV37 dc37 pm37 an37 cd37 ct37
    | _ => PySem.W.fnOf "worth" "worth" (defArgs (top 1)) (defBody (top 1)) (defScope (top 1)) .none kV0 dc0 pm0 an0 cd0 ct0, ⟨rfl, fun k fe hk => ?_, fun p hp => ?_, fun x hx => ?_⟩, by have e := hfa.symm.trans (PySem.W.mg_of X G a37); cases e; rfl⟩
  · match k, hk with
    | 0, hk => cases hk; exact ⟨fun_mk (st := top 1) l0 c0 k0, PySem.W.mg_of X G a0⟩
    | 1, hk => cases hk; exact ⟨fun_mk (st := top 9) l1 c1 k1, PySem.W.mg_of X G a1⟩
    | 2, hk => cases hk; exact ⟨fun_mk (st := top 10) l2 c2 k2, PySem.W.mg_of X G a2⟩
    | 3, hk => cases hk; exact ⟨fun_mk (st := top 11) l3 c3 k3, PySem.W.mg_of X G a3⟩
    | 4, hk => cases hk; exact ⟨fun_mk (st := top 16) l4 c4 k4, PySem.W.mg_of X G a4⟩
    | 5, hk => cases hk; exact ⟨fun_mk (st := top 17) l5 c5 k5, PySem.W.mg_of X G a5⟩
    | 6, hk => cases hk; exact ⟨fun_mk (st := top 18) l6 c6 k6, PySem.W.mg_of X G a6⟩
    | 7, hk => cases hk; exact ⟨fun_mk (st := top 19) l7 c7 k7, PySem.W.mg_of X G a7⟩
    | 8, hk => cases hk; exact ⟨fun_mk (st := top 20) l8 c8 k8, PySem.W.mg_of X G a8⟩
    | 9, hk => cases hk; exact ⟨fun_mk (st := top 21) l9 c9 k9, PySem.W.mg_of X G a9⟩
    | 10, hk => cases hk; exact ⟨fun_mk (st := top 22) l10 c10 k10, PySem.W.mg_of X G a10⟩
    | 11, hk => cases hk; exact ⟨fun_mk (st := top 23) l11 c11 k11, PySem.W.mg_of X G a11⟩
    | 12, hk => cases hk; exact ⟨fun_mk (st := top 24) l12 c12 k12, PySem.W.mg_of X G a12⟩
    | 13, hk => cases hk; exact ⟨fun_mk (st := top 26) l13 c13 k13, PySem.W.mg_of X G a13⟩
    | 14, hk => cases hk; exact ⟨fun_mk (st := top 27) l14 c14 k14, PySem.W.mg_of X G a14⟩
    | 15, hk => cases hk; exact ⟨fun_mk (st := top 28) l15 c15 k15, PySem.W.mg_of X G a15⟩
    | 16, hk => cases hk; exact ⟨fun_mk (st := top 29) l16 c16 k16, PySem.W.mg_of X G a16⟩
    | 17, hk => cases hk; exact ⟨fun_mk (st := top 30) l17 c17 k17, PySem.W.mg_of X G a17⟩
    | 18, hk => cases hk; exact ⟨fun_mk (st := top 31) l18 c18 k18, PySem.W.mg_of X G a18⟩
    | 19, hk => cases hk; exact ⟨fun_mk (st := top 32) l19 c19 k19, PySem.W.mg_of X G a19⟩
    | 20, hk => cases hk; exact ⟨fun_mk (st := top 33) l20 c20 k20, PySem.W.mg_of X G a20⟩
    | 21, hk => cases hk; exact ⟨fun_mk (st := top 34) l21 c21 k21, PySem.W.mg_of X G a21⟩
    | 22, hk => cases hk; exact ⟨fun_mk (st := top 35) l22 c22 k22, PySem.W.mg_of X G a22⟩
    | 23, hk => cases hk; exact ⟨fun_mk (st := top 36) l23 c23 k23, PySem.W.mg_of X G a23⟩
    | 24, hk => cases hk; exact ⟨fun_mk (st := top 37) l24 c24 k24, PySem.W.mg_of X G a24⟩
    | 25, hk => cases hk; exact ⟨fun_mk (st := top 38) l25 c25 k25, PySem.W.mg_of X G a25⟩
    | 26, hk => cases hk; exact ⟨fun_mk (st := top 39) l26 c26 k26, PySem.W.mg_of X G a26⟩
    | 27, hk => cases hk; exact ⟨fun_mk (st := top 40) l27 c27 k27, PySem.W.mg_of X G a27⟩
    | 28, hk => cases hk; exact ⟨fun_mk (st := top 40) l28 c28 k28, PySem.W.mg_of X G a28⟩
    | 29, hk => cases hk; exact ⟨fun_mk (st := top 42) l29 c29 k29, PySem.W.mg_of X G a29⟩
    | 30, hk => cases hk; exact ⟨fun_mk (st := top 42) l30 c30 k30, PySem.W.mg_of X G a30⟩
    | 31, hk => cases hk; exact ⟨fun_mk (st := top 44) l31 c31 k31, PySem.W.mg_of X G a31⟩
    | 32, hk => cases hk; exact ⟨fun_mk (st := top 45) l32 c32 k32, PySem.W.mg_of X G a32⟩
    | 33, hk => cases hk; exact ⟨fun_mk (st := top 46) l33 c33 k33, PySem.W.mg_of X G a33⟩
    | 34, hk => cases hk; exact ⟨fun_mk (st := top 47) l34 c34 k34, PySem.W.mg_of X G a34⟩
    | 35, hk => cases hk; exact ⟨fun_mk (st := top 48) l35 c35 k35, PySem.W.mg_of X G a35⟩
    | 36, hk => cases hk; exact ⟨fun_mk (st := top 49) l36 c36 k36, PySem.W.mg_of X G a36⟩
    | 37, hk => cases hk; exact ⟨fun_mk (st := top 50) l37 c37 k37, PySem.W.mg_of X G a37⟩
    | k + 38, hk => cases hk
  · simp only [pg, cs, List.mem_cons, List.not_mem_nil, or_false] at hp
    rcases hp with rfl | rfl | rfl | rfl | rfl | rfl | rfl | rfl | rfl
    · exact ⟨.str "le" t0, .str "le", PySem.W.mg_of X G q0, ⟨t0, rfl⟩, fun P => .str _⟩
    · exact ⟨.str "into" t1, .str "into", PySem.W.mg_of X G q1, ⟨t1, rfl⟩, fun P => .str _⟩
    · exact ⟨.str "off" t2, .str "off", PySem.W.mg_of X G q2, ⟨t2, rfl⟩, fun P => .str _⟩
    · exact ⟨.str "and" t3, .str "and", PySem.W.mg_of X G q3, ⟨t3, rfl⟩, fun P => .str _⟩
    · exact ⟨.str "or" t4, .str "or", PySem.W.mg_of X G q4, ⟨t4, rfl⟩, fun P => .str _⟩
    · exact ⟨.ref z5, .ref z5, PySem.W.mg_of X G q5, rfl, fun P => PV.strs_dn [("le", u5_0), ("into", u5_1), ("off", u5_2)] r5 (Nat.le_of_ble_eq_true rfl)⟩
    · exact ⟨.str "over" t6, .str "over", PySem.W.mg_of X G q6, ⟨t6, rfl⟩, fun P => .str _⟩
    · exact ⟨.str "low" t7, .str "low", PySem.W.mg_of X G q7, ⟨t7, rfl⟩, fun P => .str _⟩
    · exact ⟨.str "yes" t8, .str "yes", PySem.W.mg_of X G q8, ⟨t8, rfl⟩, fun P => .str _⟩
  · simp only [pg, bs, List.mem_cons, List.not_mem_nil, or_false] at hx
    rcases hx with rfl | rfl | rfl | rfl | rfl | rfl | rfl | rfl | rfl | rfl | rfl | rfl | rfl | rfl | rfl | rfl | rfl | rfl | rfl
    · exact PySem.W.mg_none_of X G b0
    · exact PySem.W.mg_none_of X G b1
    · exact PySem.W.mg_none_of X G b2
    · exact PySem.W.mg_none_of X G b3
    · exact PySem.W.mg_none_of X G b4
    · exact PySem.W.mg_none_of X G b5
    · exact PySem.W.mg_none_of X G b6
    · exact PySem.W.mg_none_of X G b7
    · exact PySem.W.mg_none_of X G b8
    · exact PySem.W.mg_none_of X G b9
    · exact PySem.W.mg_none_of X G b10
    · exact PySem.W.mg_none_of X G b11
    · exact PySem.W.mg_none_of X G b12
    · exact PySem.W.mg_none_of X G b13
    · exact PySem.W.mg_none_of X G b14
    · exact PySem.W.mg_none_of X G b15
    · exact PySem.W.mg_none_of X G b16
    · exact PySem.W.mg_none_of X G b17
    · exact PySem.W.mg_none_of X G b18
end K60
end

section
set_option Elab.async false
set_option linter.all false
set_option maxRecDepth 100000
namespace K60
open PySem L2 PV
theorem e0 : pg.code h0 = some s0 := by decide +kernel
theorem e1 : pg.code h1 = some s1 := by decide +kernel
theorem e2 : pg.code h2 = some s2 := by decide +kernel
theorem e3 : pg.code h3 = some s3 := by decide +kernel
theorem e4 : pg.code h4 = some s4 := by decide +kernel
theorem e5 : pg.code h5 = some s5 := by decide +kernel
theorem e6 : pg.code h6 = some s6 := by decide +kernel
theorem e7 : pg.code h7 = some s7 := by decide +kernel
theorem e8 : pg.code h8 = some s8 := by decide +kernel
theorem e9 : pg.code h9 = some s9 := by decide +kernel
theorem e10 : pg.code h10 = some s10 := by decide +kernel
theorem e11 : pg.code h11 = some s11 := by decide +kernel
theorem e12 : pg.code h12 = some s12 := by decide +kernel
theorem e13 : pg.code h13 = some s13 := by decide +kernel
theorem e14 : pg.code h14 = some s14 := by decide +kernel
theorem e15 : pg.code h15 = some s15 := by decide +kernel
theorem e16 : pg.code h16 = some s16 := by decide +kernel
theorem e17 : pg.code h17 = some s17 := by decide +kernel
theorem e18 : pg.code h18 = some s18 := by decide +kernel
theorem e19 : pg.code h19 = some s19 := by decide +kernel
theorem e20 : pg.code h20 = some s20 := by decide +kernel
theorem e21 : pg.code h21 = some s21 := by decide +kernel
theorem e22 : pg.code h22 = some s22 := by decide +kernel
theorem e23 : pg.code h23 = some s23 := by decide +kernel
theorem e24 : pg.code h24 = some s24 := by decide +kernel
theorem e25 : pg.code h25 = some s25 := by decide +kernel
theorem e26 : pg.code h26 = some s26 := by decide +kernel
theorem e27 : pg.code h27 = some s27 := by decide +kernel
theorem e28 : pg.code h28 = some s27 := by decide +kernel
theorem e29 : pg.code h29 = some s29 := by decide +kernel
theorem e30 : pg.code h30 = some s29 := by decide +kernel
theorem e31 : pg.code h31 = some s31 := by decide +kernel
theorem e32 : pg.code h32 = some s32 := by decide +kernel
theorem e33 : pg.code h33 = some s33 := by decide +kernel
theorem e34 : pg.code h34 = some s34 := by decide +kernel
theorem e35 : pg.code h35 = some s35 := by decide +kernel
theorem e36 : pg.code h36 = some s36 := by decide +kernel
theorem e37 : pg.code h37 = some s37 := by decide +kernel
theorem tb_eq : pg.fill.tb = tb := by
  show Tb.mk ((hs.map fun fe => { fe with body := (pg.code fe).getD .skip }).map fun fe => ⟨fe.ws, fe.rw, fe.N.length, fe.body⟩) [] = tb
  simp only [hs, List.map_cons, List.map_nil, e0, e1, e2, e3, e4, e5, e6, e7, e8, e9, e10, e11, e12, e13, e14, e15, e16, e17, e18, e19, e20, e21, e22, e23, e24, e25, e26, e27, e28, e29, e30, e31, e32, e33, e34, e35, e36, e37, Option.getD_some]
  rfl
end K60
end

section
set_option Elab.async false
set_option linter.all false
set_option maxRecDepth 100000
namespace K60
open PySem L2 PV
theorem Z_ex : ∃ f, f = cf tb := ⟨cf tb, rfl⟩
/-- calls to a depth, told so that nothing looks within -/
noncomputable def Z : Nat → CF := Classical.choose Z_ex
theorem Z_eq : Z = cf tb := Classical.choose_spec Z_ex
theorem Z_run {k : Nat} {fc : FnC} (h : tb.fns[k]? = some fc) (n : Nat) : ∃ mk, ∀ args, Z (n + 1) k args = runF (Z n) mk fc args := by
  rw [Z_eq]
  exact cf_run h n
theorem runF_mk (cf mk : CF) (ws : List W) (rw : W) (ns : Nat) (body : PV.S) (args : List D) : runF cf mk ⟨ws, rw, ns, body⟩ args = (if args.length = ws.length then
    match evS cf mk body ((ws.zip args).map some ++ List.replicate (ns - ws.length) none) with
    | .nx e => if rw.isFrz then (R.of (outsOf ws args e)).bind fun o => .ok (.non, o) else .stuck
    | .ret w d e => if rw.isFrz || W.same w rw then (R.of (outsOf ws args e)).bind fun o => .ok (d, o) else .stuck
    | .exc x e => (R.of (outsOf ws args e)).bind fun o => .exc x o
    | _ => .stuck
  else .stuck) := nr rfl
theorem r0 (n : Nat) : ∃ mk, ∀ args, Z (n + 1) 0 args = runF (Z n) mk ⟨[.frz, .frz], .frz, 5, (.seq (.asg 2 (.prim .item (.cons (.brw 0 []) (.cons (.lit (.int 0)) .nil))))
    (.seq (.forIn (.tgTup (.cons (.tgName 3) (.cons (.tgName 4) .nil))) (.itVal (.prim .item (.cons (.brw 0 []) (.cons (.lit (.int 1)) .nil)))) l0_0)
    (.seq (.ret (.var 2))
    .skip)))⟩ args := Z_run (fc := f0) rfl n
theorem r1 (n : Nat) : ∃ mk, ∀ args, Z (n + 1) 1 args = runF (Z n) mk ⟨[.frz, .frz], .frz, 3, (.seq (.asg 2 (.call 0 .frz (.cons (.prim .item (.cons (.brw 0 []) (.cons (.prim .neg (.cons (.lit (.int 1)) .nil)) .nil))) (.cons (.var 1) .nil))))
    (.seq (.ife (.prim .eq (.cons (.prim .item (.cons (.brw 0 []) (.cons (.lit (.int 0)) .nil))) (.cons (.lit (.str "le")) .nil))) (.seq (.ret (.prim .le (.cons (.brw 2 []) (.cons (.lit (.int 0)) .nil))))
    .skip) .skip)
    (.seq (.ret (.prim .eq (.cons (.prim .eq (.cons (.prim .mod (.cons (.brw 2 []) (.cons (.prim .item (.cons (.brw 0 []) (.cons (.lit (.int 1)) .nil))) .nil))) (.cons (.lit (.int 0)) .nil))) (.cons (.prim .eq (.cons (.prim .item (.cons (.brw 0 []) (.cons (.lit (.int 0)) .nil))) (.cons (.lit (.str "into")) .nil))) .nil))))
    .skip)))⟩ args := Z_run (fc := f1) rfl n
theorem r2 (n : Nat) : ∃ mk, ∀ args, Z (n + 1) 2 args = runF (Z n) mk ⟨[.frz, .frz], .frz, 4, (.seq (.ife (.prim .isin (.cons (.prim .item (.cons (.brw 0 []) (.cons (.lit (.int 0)) .nil))) (.cons (.lit (.tup [(.str "le"), (.str "into"), (.str "off")])) .nil))) (.seq (.ret (.call 1 .frz (.cons (.var 0) (.cons (.var 1) .nil))))
    .skip) .skip)
    (.seq (.asg 2 (.comp (.tgName 3) (.itVal (.prim .item (.cons (.brw 0 []) (.cons (.lit (.int 1)) .nil)))) (.lit (.bl true)) (.call 2 .frz (.cons (.var 3) (.cons (.var 1) .nil))) [3]))
    (.seq (.ret (.ite (.prim .eq (.cons (.prim .item (.cons (.brw 0 []) (.cons (.lit (.int 0)) .nil))) (.cons (.lit (.str "and")) .nil))) (.prim .all (.cons (.brw 2 []) .nil)) (.prim .any (.cons (.brw 2 []) .nil))))
    .skip)))⟩ args := Z_run (fc := f2) rfl n
theorem r3 (n : Nat) : ∃ mk, ∀ args, Z (n + 1) 3 args = runF (Z n) mk ⟨[.frz], .frz, 4, (.seq (.par 1 2 (.lst .nil) (.lst (.cons (.var 0) .nil)))
    (.seq (.whil (.prim .ne (.cons (.brw 2 []) (.cons (.lst .nil) .nil))) l3_0)
    (.seq (.ret (.var 1))
    .skip)))⟩ args := Z_run (fc := f3) rfl n
theorem r4 (n : Nat) : ∃ mk, ∀ args, Z (n + 1) 4 args = runF (Z n) mk ⟨[.frz, .frz], .frz, 2, (.seq (.ret (.ite (.prim .eq (.cons (.prim .mod (.cons (.brw 0 []) (.cons (.brw 1 []) .nil))) (.cons (.lit (.int 0)) .nil))) (.prim .fdiv (.cons (.brw 0 []) (.cons (.brw 1 []) .nil))) (.lit .non)))
    .skip)⟩ args := Z_run (fc := f4) rfl n
theorem r5 (n : Nat) : ∃ mk, ∀ args, Z (n + 1) 5 args = runF (Z n) mk ⟨[.frz], .frz, 3, (.seq (.ret (.tup (.cons (.prim .sum (.cons (.comp (.tgTup (.cons (.tgName 1) (.cons (.tgName 2) .nil))) (.itVal (.prim .item (.cons (.brw 0 []) (.cons (.lit (.int 1)) .nil)))) (.lit (.bl true)) (.prim .abs (.cons (.brw 2 []) .nil)) [1, 2]) .nil)) (.cons (.prim .abs (.cons (.prim .item (.cons (.brw 0 []) (.cons (.lit (.int 0)) .nil))) .nil)) .nil))))
    .skip)⟩ args := Z_run (fc := f5) rfl n
theorem r6 (n : Nat) : ∃ mk, ∀ args, Z (n + 1) 6 args = runF (Z n) mk ⟨[.frz], .frz, 5, (.seq (.ife (.prim .eq (.cons (.prim .item (.cons (.brw 0 []) (.cons (.lit (.int 0)) .nil))) (.cons (.lit (.str "over")) .nil))) (.seq (.ret (.call 5 .frz (.cons (.prim .item (.cons (.brw 0 []) (.cons (.lit (.int 1)) .nil))) .nil)))
    .skip) .skip)
    (.seq (.asg 1 (.comp (.tgName 2) (.itVal (.prim .item (.cons (.brw 0 []) (.cons (.lit (.int 1)) .nil)))) (.lit (.bl true)) (.call 5 .frz (.cons (.var 2) .nil)) [2]))
    (.seq (.ife (.prim .eq (.cons (.brw 1 []) (.cons (.lst .nil) .nil))) (.seq (.ret (.tup (.cons (.lit (.int 0)) (.cons (.prim .item (.cons (.brw 0 []) (.cons (.lit (.int 2)) .nil))) .nil))))
    .skip) .skip)
    (.seq (.ret (.tup (.cons (.prim .max1 (.cons (.comp (.tgTup (.cons (.tgName 3) (.cons (.tgName 4) .nil))) (.itVal (.var 1)) (.lit (.bl true)) (.var 3) [3, 4]) .nil)) (.cons (.prim .add (.cons (.prim .max1 (.cons (.comp (.tgTup (.cons (.tgName 3) (.cons (.tgName 4) .nil))) (.itVal (.var 1)) (.lit (.bl true)) (.var 4) [3, 4]) .nil)) (.cons (.prim .item (.cons (.brw 0 []) (.cons (.lit (.int 3)) .nil))) .nil))) .nil))))
    .skip))))⟩ args := Z_run (fc := f6) rfl n
theorem r7 (n : Nat) : ∃ mk, ∀ args, Z (n + 1) 7 args = runF (Z n) mk ⟨[.frz, .frz], .frz, 10, (.seq (.ife (.prim .eq (.cons (.prim .item (.cons (.brw 0 []) (.cons (.lit (.int 0)) .nil))) (.cons (.lit (.str "over")) .nil))) (.seq (.ret (.call 4 .frz (.cons (.call 0 .frz (.cons (.prim .item (.cons (.brw 0 []) (.cons (.lit (.int 1)) .nil))) (.cons (.var 1) .nil))) (.cons (.prim .item (.cons (.brw 0 []) (.cons (.lit (.int 2)) .nil))) .nil))))
    .skip) .skip)
    (.seq (.asgT (.tgTup (.cons (.tgName 4) (.cons (.tgName 5) (.cons (.tgName 6) (.cons (.tgName 7) (.cons (.tgName 8) .nil)))))) (.var 0))
    (.seq (.ife (.prim .eq (.cons (.brw 5 []) (.cons (.tup .nil) .nil))) (.seq (.ret (.call 4 .frz (.cons (.var 6) (.cons (.var 8) .nil))))
    .skip) .skip)
    (.seq (.asg 2 (.comp (.tgName 9) (.itVal (.var 5)) (.lit (.bl true)) (.call 0 .frz (.cons (.var 9) (.cons (.var 1) .nil))) [9]))
    (.seq (.ife (.prim .eq (.cons (.brw 4 []) (.cons (.lit (.str "low")) .nil))) (.seq (.asg 3 (.prim .sub (.cons (.prim .min1 (.cons (.brw 2 []) .nil)) (.cons (.lit (.int 1)) .nil))))
    (.seq (.ret (.call 4 .frz (.cons (.prim .sub (.cons (.brw 3 []) (.cons (.prim .mod (.cons (.prim .sub (.cons (.brw 3 []) (.cons (.brw 6 []) .nil))) (.cons (.brw 7 []) .nil))) .nil))) (.cons (.var 8) .nil))))
    .skip)) .skip)
    (.seq (.asg 3 (.prim .add (.cons (.prim .max1 (.cons (.brw 2 []) .nil)) (.cons (.lit (.int 1)) .nil))))
    (.seq (.ret (.call 4 .frz (.cons (.prim .add (.cons (.brw 3 []) (.cons (.prim .mod (.cons (.prim .sub (.cons (.brw 6 []) (.cons (.brw 3 []) .nil))) (.cons (.brw 7 []) .nil))) .nil))) (.cons (.var 8) .nil))))
    .skip)))))))⟩ args := Z_run (fc := f7) rfl n
theorem r8 (n : Nat) : ∃ mk, ∀ args, Z (n + 1) 8 args = runF (Z n) mk ⟨[.frz, .frz], .frz, 5, (.seq (.forIn (.tgTup (.cons (.tgName 2) (.cons (.tgTup (.cons (.tgName 3) (.cons (.tgName 4) .nil))) .nil))) (.itEnum (.var 0)) l8_0)
    (.seq (.ret (.lit .non))
    .skip))⟩ args := Z_run (fc := f8) rfl n
theorem r9 (n : Nat) : ∃ mk, ∀ args, Z (n + 1) 9 args = runF (Z n) mk ⟨[.frz, .frz], .frz, 2, (.seq (.ret (.call 7 .frz (.cons (.prim .item (.cons (.prim .item (.cons (.brw 0 []) (.cons (.call 8 .frz (.cons (.var 0) (.cons (.var 1) .nil))) .nil))) (.cons (.lit (.int 1)) .nil))) (.cons (.var 1) .nil))))
    .skip)⟩ args := Z_run (fc := f9) rfl n
theorem r10 (n : Nat) : ∃ mk, ∀ args, Z (n + 1) 10 args = runF (Z n) mk ⟨[.frz], .frz, 3, (.seq (.ret (.prim .sum (.cons (.comp (.tgTup (.cons (.tgName 1) (.cons (.tgName 2) .nil))) (.itVal (.var 0)) (.lit (.bl true)) (.prim .len (.cons (.call 3 .frz (.cons (.var 1) .nil)) .nil)) [1, 2]) .nil)))
    .skip)⟩ args := Z_run (fc := f10) rfl n
theorem r11 (n : Nat) : ∃ mk, ∀ args, Z (n + 1) 11 args = runF (Z n) mk ⟨[.frz], .frz, 6, (.seq (.asg 1 (.comp (.tgTup (.cons (.tgName 2) (.cons (.tgName 3) .nil))) (.itVal (.var 0)) (.lit (.bl true)) (.call 6 .frz (.cons (.var 3) .nil)) [2, 3]))
    (.seq (.ret (.tup (.cons (.prim .max1 (.cons (.comp (.tgTup (.cons (.tgName 4) (.cons (.tgName 5) .nil))) (.itVal (.var 1)) (.lit (.bl true)) (.var 4) [4, 5]) .nil)) (.cons (.prim .max1 (.cons (.comp (.tgTup (.cons (.tgName 4) (.cons (.tgName 5) .nil))) (.itVal (.var 1)) (.lit (.bl true)) (.var 5) [4, 5]) .nil)) .nil))))
    .skip))⟩ args := Z_run (fc := f11) rfl n
theorem r12 (n : Nat) : ∃ mk, ∀ args, Z (n + 1) 12 args = runF (Z n) mk ⟨[.frz, .frz, .frz], .frz, 9, (.seq (.par 5 6 (.var 2) (.prim .list (.cons (.prim .item (.cons (.brw 1 []) (.cons (.lit (.int 2)) .nil))) .nil)))
    (.seq (.asg 3 (.ite (.prim .eq (.cons (.prim .item (.cons (.brw 1 []) (.cons (.lit (.int 1)) .nil))) (.cons (.lit (.str "yes")) .nil))) (.lit (.str "some")) (.lit (.str "all"))))
    (.seq (.forIn (.tgName 4) (.itVal (.prim .item (.cons (.brw 0 []) (.cons (.lit (.int 2)) .nil)))) l12_0)
    (.seq (.ret (.var 5))
    .skip))))⟩ args := Z_run (fc := f12) rfl n
theorem r13 (n : Nat) : ∃ mk, ∀ args, Z (n + 1) 13 args = runF (Z n) mk ⟨[.frz, .frz], .own .frz, 4, (.seq (.asg 2 (.ite (.prim .lt (.cons (.brw 1 []) (.cons (.prim .len (.cons (.brw 0 []) .nil)) .nil))) (.prim .abs (.cons (.prim .item (.cons (.brw 0 []) (.cons (.brw 1 []) .nil))) .nil)) (.prim .add (.cons (.prim .add (.cons (.prim .mul (.cons (.lit (.int 311)) (.cons (.brw 1 []) .nil))) (.cons (.lit (.int 227)) .nil))) (.cons (.prim .mod (.cons (.prim .abs (.cons (.prim .sum (.cons (.sl (.brw 0 []) .nil (.lit (.int 1))) .nil)) .nil)) (.cons (.lit (.int 1000003)) .nil))) .nil)))))
    (.seq (.asg 3 (.prim .add (.cons (.prim .mod (.cons (.prim .int1 (.cons (.prim .add (.cons (.prim .add (.cons (.prim .mul (.cons (.prim .mod (.cons (.prim .int1 (.cons (.brw 2 []) .nil)) (.cons (.lit (.int 2147483549)) .nil))) (.cons (.lit (.int 40507)) .nil))) (.cons (.prim .mul (.cons (.lit (.int 8623)) (.cons (.brw 1 []) .nil))) .nil))) (.cons (.lit (.int 157)) .nil))) .nil)) (.cons (.lit (.int 2147483563)) .nil))) (.cons (.lit (.int 1)) .nil))))
    (.seq (.ret (.lst (.cons (.prim .max2 (.cons (.lit (.int 0)) (.cons (.prim .sub (.cons (.brw 2 []) (.cons (.prim .pow (.cons (.lit (.int 10)) (.cons (.lit (.int 18)) .nil))) .nil))) .nil))) (.cons (.var 3) .nil))))
    .skip)))⟩ args := Z_run (fc := f13) rfl n
theorem r14 (n : Nat) : ∃ mk, ∀ args, Z (n + 1) 14 args = runF (Z n) mk ⟨[.own .frz, .frz], .frz, 3, (.seq (.ife (.prim .gt (.cons (.prim .item (.cons (.brw 0 []) (.cons (.lit (.int 0)) .nil))) (.cons (.lit (.int 0)) .nil))) (.seq (.setIxT 0 (.lit (.int 0)) 2 (.prim .divmod (.cons (.prim .item (.cons (.brw 0 []) (.cons (.lit (.int 0)) .nil))) (.cons (.brw 1 []) .nil))))
    (.seq (.ret (.var 2))
    .skip)) .skip)
    (.seq (.setIx 0 [] (.lit (.int 1)) (.prim .mod (.cons (.prim .int1 (.cons (.prim .add (.cons (.prim .mul (.cons (.prim .item (.cons (.brw 0 []) (.cons (.lit (.int 1)) .nil))) (.cons (.lit (.int 40709)) .nil))) (.cons (.lit (.int 8623)) .nil))) .nil)) (.cons (.lit (.int 2147483587)) .nil))))
    (.seq (.ret (.prim .mod (.cons (.prim .int1 (.cons (.prim .fdiv (.cons (.prim .mod (.cons (.prim .int1 (.cons (.prim .mul (.cons (.prim .item (.cons (.brw 0 []) (.cons (.lit (.int 1)) .nil))) (.cons (.prim .item (.cons (.brw 0 []) (.cons (.lit (.int 1)) .nil))) .nil))) .nil)) (.cons (.lit (.int 2147483629)) .nil))) (.cons (.lit (.int 23)) .nil))) .nil)) (.cons (.brw 1 []) .nil))))
    .skip)))⟩ args := Z_run (fc := f14) rfl n
theorem r15 (n : Nat) : ∃ mk, ∀ args, Z (n + 1) 15 args = runF (Z n) mk ⟨[.own .frz, .frz], .frz, 2, (.seq (.ret (.prim .item (.cons (.brw 1 []) (.cons (.call 14 .frz (.cons (.io 0 (.own .frz)) (.cons (.prim .len (.cons (.brw 1 []) .nil)) .nil))) .nil))))
    .skip)⟩ args := Z_run (fc := f15) rfl n
theorem r16 (n : Nat) : ∃ mk, ∀ args, Z (n + 1) 16 args = runF (Z n) mk ⟨[.frz, .frz], .frz, 4, (.seq (.ife (.prim .isN (.cons (.brw 1 []) .nil)) (.seq (.ret (.prim .isN (.cons (.brw 0 []) .nil)))
    .skip) .skip)
    (.seq (.ife (.prim (.isa [.bool]) (.cons (.brw 1 []) .nil)) (.seq (.ret (.and (.prim (.isa [.bool]) (.cons (.brw 0 []) .nil)) (.prim .eq (.cons (.brw 0 []) (.cons (.brw 1 []) .nil)))))
    .skip) .skip)
    (.seq (.ife (.prim (.isa [.int]) (.cons (.brw 1 []) .nil)) (.seq (.ret (.and (.prim (.isa [.int]) (.cons (.brw 0 []) .nil)) (.and (.prim .not (.cons (.prim (.isa [.bool]) (.cons (.brw 0 []) .nil)) .nil)) (.prim .eq (.cons (.brw 0 []) (.cons (.brw 1 []) .nil))))))
    .skip) .skip)
    (.seq (.ife (.prim (.isa [.str]) (.cons (.brw 1 []) .nil)) (.seq (.ret (.and (.prim (.isa [.str]) (.cons (.brw 0 []) .nil)) (.prim .eq (.cons (.brw 0 []) (.cons (.brw 1 []) .nil)))))
    .skip) .skip)
    (.seq (.asg 2 (.ite (.prim (.isa [.list]) (.cons (.brw 1 []) .nil)) (.prim (.isa [.list]) (.cons (.brw 0 []) .nil)) (.prim (.isa [.tuple]) (.cons (.brw 0 []) .nil))))
    (.seq (.ife (.or (.prim .not (.cons (.var 2) .nil)) (.prim .ne (.cons (.prim .len (.cons (.brw 0 []) .nil)) (.cons (.prim .len (.cons (.brw 1 []) .nil)) .nil)))) (.seq (.ret (.lit (.bl false)))
    .skip) .skip)
    (.seq (.ret (.prim .eq (.cons (.comp (.tgName 3) (.itRange1 (.prim .len (.cons (.brw 1 []) .nil))) (.prim .not (.cons (.call 16 .frz (.cons (.prim .item (.cons (.brw 0 []) (.cons (.brw 3 []) .nil))) (.cons (.prim .item (.cons (.brw 1 []) (.cons (.brw 3 []) .nil))) .nil))) .nil)) (.var 3) [3]) (.cons (.lst .nil) .nil))))
    .skip)))))))⟩ args := Z_run (fc := f16) rfl n
theorem r17 (n : Nat) : ∃ mk, ∀ args, Z (n + 1) 17 args = runF (Z n) mk ⟨[.frz], .frz, 1, (.seq (.ret (.tup (.cons (.lit (.str "number")) (.cons (.var 0) .nil))))
    .skip)⟩ args := Z_run (fc := f17) rfl n
theorem r18 (n : Nat) : ∃ mk, ∀ args, Z (n + 1) 18 args = runF (Z n) mk ⟨[.frz], .frz, 1, (.seq (.ret (.tup (.cons (.lit (.str "name")) (.cons (.var 0) .nil))))
    .skip)⟩ args := Z_run (fc := f18) rfl n
theorem r19 (n : Nat) : ∃ mk, ∀ args, Z (n + 1) 19 args = runF (Z n) mk ⟨[.own .frz, .frz, .frz], .frz, 6, (.seq (.asg 3 (.call 17 .frz (.cons (.prim .sub (.cons (.call 14 .frz (.cons (.io 0 (.own .frz)) (.cons (.lit (.int 9)) .nil))) (.cons (.lit (.int 4)) .nil))) .nil)))
    (.seq (.forIn (.tgName 4) (.itVal (.var 1)) l19_0)
    (.seq (.ret (.var 3))
    .skip)))⟩ args := Z_run (fc := f19) rfl n
theorem r20 (n : Nat) : ∃ mk, ∀ args, Z (n + 1) 20 args = runF (Z n) mk ⟨[.own .frz, .frz, .frz], .frz, 3, (.seq (.ife (.prim .eq (.cons (.call 14 .frz (.cons (.io 0 (.own .frz)) (.cons (.lit (.int 4)) .nil))) (.cons (.lit (.int 0)) .nil))) (.seq (.ret (.tup (.cons (.lit (.str "into")) (.cons (.prim .add (.cons (.lit (.int 2)) (.cons (.call 14 .frz (.cons (.io 0 (.own .frz)) (.cons (.lit (.int 4)) .nil))) .nil))) (.cons (.call 19 .frz (.cons (.io 0 (.own .frz)) (.cons (.var 1) (.cons (.var 2) .nil)))) .nil)))))
    .skip) .skip)
    (.seq (.ret (.tup (.cons (.lit (.str "is")) (.cons (.call 15 .frz (.cons (.io 0 (.own .frz)) (.cons (.lst (.cons (.lit (.str "<")) (.cons (.lit (.str "<=")) (.cons (.lit (.str "=")) (.cons (.lit (.str "!=")) (.cons (.lit (.str ">")) (.cons (.lit (.str ">=")) .nil))))))) .nil))) (.cons (.call 19 .frz (.cons (.io 0 (.own .frz)) (.cons (.var 1) (.cons (.var 2) .nil)))) (.cons (.call 19 .frz (.cons (.io 0 (.own .frz)) (.cons (.sl (.brw 1 []) .nil (.lit (.int 1))) (.cons (.lit (.int 1)) .nil)))) .nil))))))
    .skip))⟩ args := Z_run (fc := f20) rfl n
theorem r21 (n : Nat) : ∃ mk, ∀ args, Z (n + 1) 21 args = runF (Z n) mk ⟨[.own .frz, .frz, .frz, .frz], .frz, 5, (.seq (.asg 4 (.ite (.prim .gt (.cons (.brw 3 []) (.cons (.lit (.int 0)) .nil))) (.call 14 .frz (.cons (.io 0 (.own .frz)) (.cons (.lit (.int 6)) .nil))) (.lit (.int 0))))
    (.seq (.ife (.prim .lt (.cons (.brw 4 []) (.cons (.lit (.int 2)) .nil))) (.seq (.ret (.call 20 .frz (.cons (.io 0 (.own .frz)) (.cons (.var 1) (.cons (.var 2) .nil)))))
    .skip) .skip)
    (.seq (.ife (.prim .eq (.cons (.brw 4 []) (.cons (.lit (.int 2)) .nil))) (.seq (.ret (.tup (.cons (.lit (.str "not")) (.cons (.call 21 .frz (.cons (.io 0 (.own .frz)) (.cons (.var 1) (.cons (.var 2) (.cons (.prim .sub (.cons (.brw 3 []) (.cons (.lit (.int 1)) .nil))) .nil))))) .nil))))
    .skip) .skip)
    (.seq (.ret (.tup (.cons (.call 15 .frz (.cons (.io 0 (.own .frz)) (.cons (.lst (.cons (.lit (.str "and")) (.cons (.lit (.str "or")) .nil))) .nil))) (.cons (.call 21 .frz (.cons (.io 0 (.own .frz)) (.cons (.var 1) (.cons (.var 2) (.cons (.prim .sub (.cons (.brw 3 []) (.cons (.lit (.int 1)) .nil))) .nil))))) (.cons (.call 21 .frz (.cons (.io 0 (.own .frz)) (.cons (.var 1) (.cons (.var 2) (.cons (.prim .sub (.cons (.brw 3 []) (.cons (.lit (.int 1)) .nil))) .nil))))) .nil)))))
    .skip))))⟩ args := Z_run (fc := f21) rfl n
theorem r22 (n : Nat) : ∃ mk, ∀ args, Z (n + 1) 22 args = runF (Z n) mk ⟨[.frz, .frz], .frz, 2, (.seq (.ife (.prim .eq (.cons (.prim .item (.cons (.brw 0 []) (.cons (.lit (.int 0)) .nil))) (.cons (.lit (.str "number")) .nil))) (.seq (.ret (.tup (.cons (.prim .item (.cons (.brw 0 []) (.cons (.lit (.int 1)) .nil))) (.cons (.tup .nil) .nil))))
    .skip) .skip)
    (.seq (.ife (.prim .eq (.cons (.prim .item (.cons (.brw 0 []) (.cons (.lit (.int 0)) .nil))) (.cons (.lit (.str "name")) .nil))) (.seq (.ret (.tup (.cons (.lit (.int 0)) (.cons (.tup (.cons (.tup (.cons (.prim .item (.cons (.brw 1 []) (.cons (.prim .item (.cons (.brw 0 []) (.cons (.lit (.int 1)) .nil))) .nil))) (.cons (.lit (.int 1)) .nil))) .nil)) .nil))))
    .skip) .skip)
    (.seq (.ife (.prim .eq (.cons (.prim .item (.cons (.brw 0 []) (.cons (.lit (.int 0)) .nil))) (.cons (.lit (.str "times")) .nil))) (.seq (.ret (.call 23 .frz (.cons (.lst (.cons (.tup (.cons (.call 22 .frz (.cons (.prim .item (.cons (.brw 0 []) (.cons (.lit (.int 2)) .nil))) (.cons (.var 1) .nil))) (.cons (.prim .item (.cons (.brw 0 []) (.cons (.lit (.int 1)) .nil))) .nil))) .nil)) .nil)))
    .skip) .skip)
    (.seq (.ret (.call 23 .frz (.cons (.lst (.cons (.tup (.cons (.call 22 .frz (.cons (.prim .item (.cons (.brw 0 []) (.cons (.lit (.int 1)) .nil))) (.cons (.var 1) .nil))) (.cons (.lit (.int 1)) .nil))) (.cons (.tup (.cons (.call 22 .frz (.cons (.prim .item (.cons (.brw 0 []) (.cons (.lit (.int 2)) .nil))) (.cons (.var 1) .nil))) (.cons (.ite (.prim .eq (.cons (.prim .item (.cons (.brw 0 []) (.cons (.lit (.int 0)) .nil))) (.cons (.lit (.str "plus")) .nil))) (.lit (.int 1)) (.prim .neg (.cons (.lit (.int 1)) .nil))) .nil))) .nil))) .nil)))
    .skip))))⟩ args := Z_run (fc := f22) rfl n
theorem r23 (n : Nat) : ∃ mk, ∀ args, Z (n + 1) 23 args = runF (Z n) mk ⟨[.frz], .frz, 7, (.seq (.par 1 2 (.lit (.int 0)) (.dct .nil))
    (.seq (.forIn (.tgTup (.cons (.tgName 3) (.cons (.tgName 4) .nil))) (.itVal (.var 0)) l23_1)
    (.seq (.ret (.tup (.cons (.var 1) (.cons (.prim .tuple (.cons (.comp (.tgName 5) (.itVal (.prim .sorted (.cons (.prim .list (.cons (.brw 2 []) .nil)) .nil))) (.prim .ne (.cons (.prim .item (.cons (.brw 2 []) (.cons (.brw 5 []) .nil))) (.cons (.lit (.int 0)) .nil))) (.tup (.cons (.var 5) (.cons (.prim .item (.cons (.brw 2 []) (.cons (.brw 5 []) .nil))) .nil))) [5]) .nil)) .nil))))
    .skip)))⟩ args := Z_run (fc := f23) rfl n
theorem r24 (n : Nat) : ∃ mk, ∀ args, Z (n + 1) 24 args = runF (Z n) mk ⟨[.frz, .frz, .frz], .frz, 4, (.seq (.asg 3 (.call 23 .frz (.cons (.lst (.cons (.tup (.cons (.var 0) (.cons (.lit (.int 1)) .nil))) (.cons (.tup (.cons (.var 1) (.cons (.prim .neg (.cons (.lit (.int 1)) .nil)) .nil))) .nil))) .nil)))
    (.seq (.ret (.tup (.cons (.lit (.str "le")) (.cons (.tup (.cons (.prim .add (.cons (.prim .item (.cons (.brw 3 []) (.cons (.lit (.int 0)) .nil))) (.cons (.brw 2 []) .nil))) (.cons (.prim .item (.cons (.brw 3 []) (.cons (.lit (.int 1)) .nil))) .nil))) .nil))))
    .skip))⟩ args := Z_run (fc := f24) rfl n
theorem r25 (n : Nat) : ∃ mk, ∀ args, Z (n + 1) 25 args = runF (Z n) mk ⟨[.frz, .frz, .frz, .frz], .frz, 11, (.seq (.ife (.prim .eq (.cons (.prim .item (.cons (.brw 0 []) (.cons (.lit (.int 0)) .nil))) (.cons (.lit (.str "is")) .nil))) (.seq (.par3 7 8 9 (.call 22 .frz (.cons (.prim .item (.cons (.brw 0 []) (.cons (.lit (.int 2)) .nil))) (.cons (.var 1) .nil))) (.call 22 .frz (.cons (.prim .item (.cons (.brw 0 []) (.cons (.lit (.int 3)) .nil))) (.cons (.var 1) .nil))) (.prim .item (.cons (.brw 0 []) (.cons (.lit (.int 1)) .nil))))
    (.seq (.ife (.var 2) (.seq (.asg 9 (.prim .item (.cons (.dct (.cons (.lit (.str "<")) (.cons (.lit (.str ">=")) (.cons (.lit (.str "<=")) (.cons (.lit (.str ">")) (.cons (.lit (.str "=")) (.cons (.lit (.str "!=")) (.cons (.lit (.str "!=")) (.cons (.lit (.str "=")) (.cons (.lit (.str ">")) (.cons (.lit (.str "<=")) (.cons (.lit (.str ">=")) (.cons (.lit (.str "<")) .nil))))))))))))) (.cons (.brw 9 []) .nil))))
    .skip) .skip)
    (.seq (.ife (.prim .isin (.cons (.brw 9 []) (.cons (.tup (.cons (.lit (.str "=")) (.cons (.lit (.str "!=")) .nil))) .nil))) (.seq (.asg 10 (.ite (.prim .eq (.cons (.brw 9 []) (.cons (.lit (.str "=")) .nil))) (.lit (.int 0)) (.lit (.int 1))))
    (.seq (.ret (.tup (.cons (.tup (.cons (.ite (.prim .eq (.cons (.brw 9 []) (.cons (.lit (.str "=")) .nil))) (.lit (.str "and")) (.lit (.str "or"))) (.cons (.tup (.cons (.call 24 .frz (.cons (.var 7) (.cons (.var 8) (.cons (.var 10) .nil)))) (.cons (.call 24 .frz (.cons (.var 8) (.cons (.var 7) (.cons (.var 10) .nil)))) .nil))) .nil))) (.cons (.var 3) .nil))))
    .skip)) .skip)
    (.seq (.ife (.prim .isin (.cons (.brw 9 []) (.cons (.tup (.cons (.lit (.str ">")) (.cons (.lit (.str ">=")) .nil))) .nil))) (.seq (.par 7 8 (.var 8) (.var 7))
    .skip) .skip)
    (.seq (.ret (.tup (.cons (.call 24 .frz (.cons (.var 7) (.cons (.var 8) (.cons (.ite (.prim .isin (.cons (.brw 9 []) (.cons (.tup (.cons (.lit (.str "<")) (.cons (.lit (.str ">")) .nil))) .nil))) (.lit (.int 1)) (.lit (.int 0))) .nil)))) (.cons (.var 3) .nil))))
    .skip))))) .skip)
    (.seq (.ife (.prim .eq (.cons (.prim .item (.cons (.brw 0 []) (.cons (.lit (.int 0)) .nil))) (.cons (.lit (.str "into")) .nil))) (.seq (.ret (.tup (.cons (.tup (.cons (.ite (.var 2) (.lit (.str "off")) (.lit (.str "into"))) (.cons (.prim .item (.cons (.brw 0 []) (.cons (.lit (.int 1)) .nil))) (.cons (.call 22 .frz (.cons (.prim .item (.cons (.brw 0 []) (.cons (.lit (.int 2)) .nil))) (.cons (.var 1) .nil))) .nil)))) (.cons (.var 3) .nil))))
    .skip) .skip)
    (.seq (.ife (.prim .eq (.cons (.prim .item (.cons (.brw 0 []) (.cons (.lit (.int 0)) .nil))) (.cons (.lit (.str "not")) .nil))) (.seq (.ret (.call 25 .frz (.cons (.prim .item (.cons (.brw 0 []) (.cons (.lit (.int 1)) .nil))) (.cons (.var 1) (.cons (.prim .not (.cons (.var 2) .nil)) (.cons (.var 3) .nil))))))
    .skip) .skip)
    (.seq (.ife (.prim .isin (.cons (.prim .item (.cons (.brw 0 []) (.cons (.lit (.int 0)) .nil))) (.cons (.tup (.cons (.lit (.str "and")) (.cons (.lit (.str "or")) .nil))) .nil))) (.seq (.asgT (.tgTup (.cons (.tgName 7) (.cons (.tgName 6) .nil))) (.call 25 .frz (.cons (.prim .item (.cons (.brw 0 []) (.cons (.lit (.int 1)) .nil))) (.cons (.var 1) (.cons (.var 2) (.cons (.var 3) .nil))))))
    (.seq (.asgT (.tgTup (.cons (.tgName 8) (.cons (.tgName 6) .nil))) (.call 25 .frz (.cons (.prim .item (.cons (.brw 0 []) (.cons (.lit (.int 2)) .nil))) (.cons (.var 1) (.cons (.var 2) (.cons (.var 6) .nil))))))
    (.seq (.ret (.tup (.cons (.tup (.cons (.ite (.var 2) (.prim .item (.cons (.dct (.cons (.lit (.str "and")) (.cons (.lit (.str "or")) (.cons (.lit (.str "or")) (.cons (.lit (.str "and")) .nil))))) (.cons (.prim .item (.cons (.brw 0 []) (.cons (.lit (.int 0)) .nil))) .nil))) (.prim .item (.cons (.brw 0 []) (.cons (.lit (.int 0)) .nil)))) (.cons (.tup (.cons (.var 7) (.cons (.var 8) .nil))) .nil))) (.cons (.var 6) .nil))))
    .skip))) .skip)
    (.seq (.asg 4 (.prim .dict1 (.cons (.brw 1 []) .nil)))
    (.seq (.setIx 4 [] (.prim .item (.cons (.brw 0 []) (.cons (.lit (.int 1)) .nil))) (.var 3))
    (.seq (.asgT (.tgTup (.cons (.tgName 5) (.cons (.tgName 6) .nil))) (.call 25 .frz (.cons (.prim .item (.cons (.brw 0 []) (.cons (.lit (.int 2)) .nil))) (.cons (.var 4) (.cons (.var 2) (.cons (.prim .add (.cons (.brw 3 []) (.cons (.lit (.int 1)) .nil))) .nil))))))
    (.seq (.ret (.tup (.cons (.tup (.cons (.ite (.var 2) (.prim .item (.cons (.dct (.cons (.lit (.str "all")) (.cons (.lit (.str "some")) (.cons (.lit (.str "some")) (.cons (.lit (.str "all")) .nil))))) (.cons (.prim .item (.cons (.brw 0 []) (.cons (.lit (.int 0)) .nil))) .nil))) (.prim .item (.cons (.brw 0 []) (.cons (.lit (.int 0)) .nil)))) (.cons (.var 3) (.cons (.var 5) .nil)))) (.cons (.var 6) .nil))))
    .skip))))))))⟩ args := Z_run (fc := f25) rfl n
theorem r26 (n : Nat) : ∃ mk, ∀ args, Z (n + 1) 26 args = runF (Z n) mk ⟨[.frz, .frz], .frz, 7, (.seq (.ife (.prim .isin (.cons (.prim .item (.cons (.brw 0 []) (.cons (.lit (.int 0)) .nil))) (.cons (.tup (.cons (.lit (.str "and")) (.cons (.lit (.str "or")) .nil))) .nil))) (.seq (.asg 3 (.comp (.tgName 4) (.itVal (.prim .item (.cons (.brw 0 []) (.cons (.lit (.int 1)) .nil)))) (.lit (.bl true)) (.call 26 .frz (.cons (.var 4) (.cons (.var 1) .nil))) [4]))
    (.seq (.ret (.ite (.prim .eq (.cons (.prim .item (.cons (.brw 0 []) (.cons (.lit (.int 0)) .nil))) (.cons (.lit (.str "and")) .nil))) (.prim .all (.cons (.brw 3 []) .nil)) (.prim .any (.cons (.brw 3 []) .nil))))
    .skip)) .skip)
    (.seq (.asg 2 (.prim .add (.cons (.prim .item (.cons (.prim .item (.cons (.brw 0 []) (.cons (.prim .neg (.cons (.lit (.int 1)) .nil)) .nil))) (.cons (.lit (.int 0)) .nil))) (.cons (.prim .sum (.cons (.comp (.tgTup (.cons (.tgName 5) (.cons (.tgName 6) .nil))) (.itVal (.prim .item (.cons (.prim .item (.cons (.brw 0 []) (.cons (.prim .neg (.cons (.lit (.int 1)) .nil)) .nil))) (.cons (.lit (.int 1)) .nil)))) (.lit (.bl true)) (.prim .mul (.cons (.brw 6 []) (.cons (.prim .item (.cons (.brw 1 []) (.cons (.brw 5 []) .nil))) .nil))) [5, 6]) .nil)) .nil))))
    (.seq (.ife (.prim .eq (.cons (.prim .item (.cons (.brw 0 []) (.cons (.lit (.int 0)) .nil))) (.cons (.lit (.str "le")) .nil))) (.seq (.ret (.prim .le (.cons (.brw 2 []) (.cons (.lit (.int 0)) .nil))))
    .skip) .skip)
    (.seq (.ret (.prim .eq (.cons (.prim .eq (.cons (.prim .int1 (.cons (.prim .mod (.cons (.brw 2 []) (.cons (.prim .item (.cons (.brw 0 []) (.cons (.lit (.int 1)) .nil))) .nil))) .nil)) (.cons (.lit (.int 0)) .nil))) (.cons (.prim .eq (.cons (.prim .item (.cons (.brw 0 []) (.cons (.lit (.int 0)) .nil))) (.cons (.lit (.str "into")) .nil))) .nil))))
    .skip))))⟩ args := Z_run (fc := f26) rfl n
theorem r27 (n : Nat) : ∃ mk, ∀ args, Z (n + 1) 27 args = runF (Z n) mk ⟨[.own .frz, .frz, .frz, .frz], .frz, 8, (.seq (.asg 4 (.sl (.lst (.cons (.lit (.str "x")) (.cons (.lit (.str "y")) (.cons (.lit (.str "z")) .nil)))) .nil (.var 1)))
    (.seq (.asg 5 (.prim .dict1 (.cons (.comp (.tgTup (.cons (.tgName 6) (.cons (.tgName 7) .nil))) (.itEnum (.var 4)) (.lit (.bl true)) (.tup (.cons (.var 7) (.cons (.var 6) .nil))) [6, 7]) .nil)))
    (.seq (.ret (.prim .item (.cons (.call 25 .frz (.cons (.call 21 .frz (.cons (.io 0 (.own .frz)) (.cons (.var 4) (.cons (.var 2) (.cons (.var 3) .nil))))) (.cons (.var 5) (.cons (.lit (.bl false)) (.cons (.var 1) .nil))))) (.cons (.lit (.int 0)) .nil))))
    .skip)))⟩ args := Z_run (fc := f27) rfl n
theorem r29 (n : Nat) : ∃ mk, ∀ args, Z (n + 1) 29 args = runF (Z n) mk ⟨[.frz, .frz], .frz, 13, (.seq (.ife (.prim .eq (.cons (.prim .item (.cons (.brw 0 []) (.cons (.lit (.int 0)) .nil))) (.cons (.lit (.str "over")) .nil))) (.seq (.par 9 8 (.prim .add (.cons (.prim .item (.cons (.prim .item (.cons (.brw 0 []) (.cons (.lit (.int 1)) .nil))) (.cons (.lit (.int 0)) .nil))) (.cons (.prim .sum (.cons (.comp (.tgTup (.cons (.tgName 11) (.cons (.tgName 12) .nil))) (.itVal (.prim .item (.cons (.prim .item (.cons (.brw 0 []) (.cons (.lit (.int 1)) .nil))) (.cons (.lit (.int 1)) .nil)))) (.lit (.bl true)) (.prim .mul (.cons (.brw 12 []) (.cons (.prim .item (.cons (.brw 1 []) (.cons (.brw 11 []) .nil))) .nil))) [11, 12]) .nil)) .nil))) (.prim .item (.cons (.brw 0 []) (.cons (.lit (.int 2)) .nil))))
    (.seq (.ret (.ite (.and (.prim .gt (.cons (.brw 8 []) (.cons (.lit (.int 0)) .nil))) (.prim .eq (.cons (.prim .int1 (.cons (.prim .mod (.cons (.brw 9 []) (.cons (.brw 8 []) .nil))) .nil)) (.cons (.lit (.int 0)) .nil)))) (.prim .fdiv (.cons (.brw 9 []) (.cons (.brw 8 []) .nil))) (.lit .non)))
    .skip)) .skip)
    (.seq (.asgT (.tgTup (.cons (.tgName 4) (.cons (.tgName 5) (.cons (.tgName 6) (.cons (.tgName 7) (.cons (.tgName 8) .nil)))))) (.var 0))
    (.seq (.ife (.or (.prim .lt (.cons (.brw 7 []) (.cons (.lit (.int 1)) .nil))) (.prim .lt (.cons (.brw 8 []) (.cons (.lit (.int 1)) .nil)))) (.seq (.ret (.lit .non))
    .skip) .skip)
    (.seq (.ife (.prim .eq (.cons (.brw 5 []) (.cons (.tup .nil) .nil))) (.seq (.ret (.ite (.prim .eq (.cons (.prim .int1 (.cons (.prim .mod (.cons (.brw 6 []) (.cons (.brw 8 []) .nil))) .nil)) (.cons (.lit (.int 0)) .nil))) (.prim .fdiv (.cons (.brw 6 []) (.cons (.brw 8 []) .nil))) (.lit .non)))
    .skip) .skip)
    (.seq (.asg 2 (.comp (.tgName 10) (.itVal (.var 5)) (.lit (.bl true)) (.prim .add (.cons (.prim .item (.cons (.brw 10 []) (.cons (.lit (.int 0)) .nil))) (.cons (.prim .sum (.cons (.comp (.tgTup (.cons (.tgName 11) (.cons (.tgName 12) .nil))) (.itVal (.prim .item (.cons (.brw 10 []) (.cons (.lit (.int 1)) .nil)))) (.lit (.bl true)) (.prim .mul (.cons (.brw 12 []) (.cons (.prim .item (.cons (.brw 1 []) (.cons (.brw 11 []) .nil))) .nil))) [11, 12]) .nil)) .nil))) [10]))
    (.seq (.asg 3 (.ite (.prim .eq (.cons (.brw 4 []) (.cons (.lit (.str "low")) .nil))) (.prim .sub (.cons (.prim .min1 (.cons (.brw 2 []) .nil)) (.cons (.lit (.int 1)) .nil))) (.prim .add (.cons (.prim .max1 (.cons (.brw 2 []) .nil)) (.cons (.lit (.int 1)) .nil)))))
    (.seq (.asg 3 (.ite (.prim .eq (.cons (.brw 4 []) (.cons (.lit (.str "low")) .nil))) (.prim .sub (.cons (.brw 3 []) (.cons (.prim .mod (.cons (.prim .int1 (.cons (.prim .sub (.cons (.brw 3 []) (.cons (.brw 6 []) .nil))) .nil)) (.cons (.brw 7 []) .nil))) .nil))) (.prim .add (.cons (.brw 3 []) (.cons (.prim .mod (.cons (.prim .int1 (.cons (.prim .sub (.cons (.brw 6 []) (.cons (.brw 3 []) .nil))) .nil)) (.cons (.brw 7 []) .nil))) .nil)))))
    (.seq (.ret (.ite (.prim .eq (.cons (.prim .int1 (.cons (.prim .mod (.cons (.brw 3 []) (.cons (.brw 8 []) .nil))) .nil)) (.cons (.lit (.int 0)) .nil))) (.prim .fdiv (.cons (.brw 3 []) (.cons (.brw 8 []) .nil))) (.lit .non)))
    .skip))))))))⟩ args := Z_run (fc := f29) rfl n
theorem r31 (n : Nat) : ∃ mk, ∀ args, Z (n + 1) 31 args = runF (Z n) mk ⟨[.own .frz, .frz], .frz, 5, (.seq (.asg 2 (.comp (.tgName 3) (.itRange1 (.var 1)) (.lit (.bl true)) (.tup (.cons (.var 3) (.cons (.prim .sub (.cons (.call 14 .frz (.cons (.io 0 (.own .frz)) (.cons (.lit (.int 7)) .nil))) (.cons (.lit (.int 3)) .nil))) .nil))) [3]))
    (.seq (.ret (.tup (.cons (.prim .sub (.cons (.call 14 .frz (.cons (.io 0 (.own .frz)) (.cons (.lit (.int 41)) .nil))) (.cons (.lit (.int 20)) .nil))) (.cons (.prim .tuple (.cons (.comp (.tgTup (.cons (.tgName 3) (.cons (.tgName 4) .nil))) (.itVal (.var 2)) (.prim .ne (.cons (.brw 4 []) (.cons (.lit (.int 0)) .nil))) (.tup (.cons (.var 3) (.cons (.var 4) .nil))) [3, 4]) .nil)) .nil))))
    .skip))⟩ args := Z_run (fc := f31) rfl n
theorem r32 (n : Nat) : ∃ mk, ∀ args, Z (n + 1) 32 args = runF (Z n) mk ⟨[.own .frz, .frz], .frz, 7, (.seq (.ife (.prim .eq (.cons (.call 14 .frz (.cons (.io 0 (.own .frz)) (.cons (.lit (.int 2)) .nil))) (.cons (.lit (.int 0)) .nil))) (.seq (.ret (.tup (.cons (.lit (.str "over")) (.cons (.call 31 .frz (.cons (.io 0 (.own .frz)) (.cons (.var 1) .nil))) (.cons (.prim .add (.cons (.lit (.int 1)) (.cons (.call 14 .frz (.cons (.io 0 (.own .frz)) (.cons (.lit (.int 3)) .nil))) .nil))) .nil)))))
    .skip) .skip)
    (.seq (.asg 2 (.prim .add (.cons (.lit (.int 1)) (.cons (.call 14 .frz (.cons (.io 0 (.own .frz)) (.cons (.lit (.int 3)) .nil))) .nil))))
    (.seq (.asg 3 (.prim .mul (.cons (.brw 2 []) (.cons (.prim .add (.cons (.lit (.int 1)) (.cons (.call 14 .frz (.cons (.io 0 (.own .frz)) (.cons (.lit (.int 4)) .nil))) .nil))) .nil))))
    (.seq (.asg 4 (.ite (.prim .gt (.cons (.call 14 .frz (.cons (.io 0 (.own .frz)) (.cons (.lit (.int 4)) .nil))) (.cons (.lit (.int 0)) .nil))) (.prim .mul (.cons (.brw 2 []) (.cons (.call 14 .frz (.cons (.io 0 (.own .frz)) (.cons (.prim .fdiv (.cons (.brw 3 []) (.cons (.brw 2 []) .nil))) .nil))) .nil))) (.call 14 .frz (.cons (.io 0 (.own .frz)) (.cons (.var 3) .nil)))))
    (.seq (.asg 5 (.prim .tuple (.cons (.comp (.tgName 6) (.itRange1 (.call 14 .frz (.cons (.io 0 (.own .frz)) (.cons (.lit (.int 4)) .nil)))) (.lit (.bl true)) (.call 31 .frz (.cons (.io 0 (.own .frz)) (.cons (.var 1) .nil))) [6]) .nil)))
    (.seq (.ret (.tup (.cons (.call 15 .frz (.cons (.io 0 (.own .frz)) (.cons (.lst (.cons (.lit (.str "low")) (.cons (.lit (.str "high")) .nil))) .nil))) (.cons (.var 5) (.cons (.var 4) (.cons (.var 3) (.cons (.var 2) .nil)))))))
    .skip))))))⟩ args := Z_run (fc := f32) rfl n
theorem r33 (n : Nat) : ∃ mk, ∀ args, Z (n + 1) 33 args = runF (Z n) mk ⟨[.own .frz, .frz], .frz, 4, (.seq (.asg 2 (.comp (.tgName 3) (.itRange1 (.call 14 .frz (.cons (.io 0 (.own .frz)) (.cons (.lit (.int 4)) .nil)))) (.lit (.bl true)) (.tup (.cons (.call 27 .frz (.cons (.io 0 (.own .frz)) (.cons (.var 1) (.cons (.lit (.int 2)) (.cons (.lit (.int 1)) .nil))))) (.cons (.call 32 .frz (.cons (.io 0 (.own .frz)) (.cons (.var 1) .nil))) .nil))) [3]))
    (.seq (.ret (.prim .tuple (.cons (.prim .add (.cons (.brw 2 []) (.cons (.lst (.cons (.tup (.cons (.tup (.cons (.lit (.str "and")) (.cons (.tup .nil) .nil))) (.cons (.call 32 .frz (.cons (.io 0 (.own .frz)) (.cons (.var 1) .nil))) .nil))) .nil)) .nil))) .nil)))
    .skip))⟩ args := Z_run (fc := f33) rfl n
theorem r34 (n : Nat) : ∃ mk, ∀ args, Z (n + 1) 34 args = runF (Z n) mk ⟨[.frz], .frz, 2, (.seq (.ret (.ite (.prim .isin (.cons (.prim .item (.cons (.brw 0 []) (.cons (.lit (.int 0)) .nil))) (.cons (.tup (.cons (.lit (.str "and")) (.cons (.lit (.str "or")) .nil))) .nil))) (.prim .sum0 (.cons (.comp (.tgName 1) (.itVal (.prim .item (.cons (.brw 0 []) (.cons (.lit (.int 1)) .nil)))) (.lit (.bl true)) (.call 34 .frz (.cons (.var 1) .nil)) [1]) .nil)) (.lit (.int 1))))
    .skip)⟩ args := Z_run (fc := f34) rfl n
theorem r35 (n : Nat) : ∃ mk, ∀ args, Z (n + 1) 35 args = runF (Z n) mk ⟨[.frz], .frz, 5, (.seq (.ife (.prim .eq (.cons (.prim .item (.cons (.brw 0 []) (.cons (.lit (.int 0)) .nil))) (.cons (.lit (.str "over")) .nil))) (.seq (.ret (.tup (.cons (.prim .sum (.cons (.comp (.tgTup (.cons (.tgName 3) (.cons (.tgName 4) .nil))) (.itVal (.prim .item (.cons (.prim .item (.cons (.brw 0 []) (.cons (.lit (.int 1)) .nil))) (.cons (.lit (.int 1)) .nil)))) (.lit (.bl true)) (.prim .abs (.cons (.brw 4 []) .nil)) [3, 4]) .nil)) (.cons (.prim .abs (.cons (.prim .item (.cons (.prim .item (.cons (.brw 0 []) (.cons (.lit (.int 1)) .nil))) (.cons (.lit (.int 0)) .nil))) .nil)) .nil))))
    .skip) .skip)
    (.seq (.ife (.prim .eq (.cons (.prim .item (.cons (.brw 0 []) (.cons (.lit (.int 1)) .nil))) (.cons (.tup .nil) .nil))) (.seq (.ret (.tup (.cons (.lit (.int 0)) (.cons (.prim .item (.cons (.brw 0 []) (.cons (.lit (.int 2)) .nil))) .nil))))
    .skip) .skip)
    (.seq (.asg 1 (.comp (.tgName 2) (.itVal (.prim .item (.cons (.brw 0 []) (.cons (.lit (.int 1)) .nil)))) (.lit (.bl true)) (.tup (.cons (.prim .sum (.cons (.comp (.tgTup (.cons (.tgName 3) (.cons (.tgName 4) .nil))) (.itVal (.prim .item (.cons (.brw 2 []) (.cons (.lit (.int 1)) .nil)))) (.lit (.bl true)) (.prim .abs (.cons (.brw 4 []) .nil)) [3, 4]) .nil)) (.cons (.prim .abs (.cons (.prim .item (.cons (.brw 2 []) (.cons (.lit (.int 0)) .nil))) .nil)) .nil))) [2]))
    (.seq (.ret (.tup (.cons (.prim .max1 (.cons (.comp (.tgName 2) (.itVal (.var 1)) (.lit (.bl true)) (.prim .item (.cons (.brw 2 []) (.cons (.lit (.int 0)) .nil))) [2]) .nil)) (.cons (.prim .add (.cons (.prim .max1 (.cons (.comp (.tgName 2) (.itVal (.var 1)) (.lit (.bl true)) (.prim .item (.cons (.brw 2 []) (.cons (.lit (.int 1)) .nil))) [2]) .nil)) (.cons (.prim .item (.cons (.brw 0 []) (.cons (.lit (.int 3)) .nil))) .nil))) .nil))))
    .skip))))⟩ args := Z_run (fc := f35) rfl n
theorem r36 (n : Nat) : ∃ mk, ∀ args, Z (n + 1) 36 args = runF (Z n) mk ⟨[.own .frz], .frz, 26, (.seq (.asg 1 (.prim .add (.cons (.lit (.int 1)) (.cons (.call 14 .frz (.cons (.io 0 (.own .frz)) (.cons (.lit (.int 3)) .nil))) .nil))))
    (.seq (.asg 2 (.call 33 .frz (.cons (.io 0 (.own .frz)) (.cons (.var 1) .nil))))
    (.seq (.asg 3 (.prim .repr (.cons (.brw 2 []) .nil)))
    (.seq (.asg 4 (.comp (.tgTup (.cons (.tgName 19) (.cons (.tgName 20) .nil))) (.itVal (.var 2)) (.lit (.bl true)) (.call 35 .frz (.cons (.var 20) .nil)) [19, 20]))
    (.seq (.asg 5 (.tup (.cons (.prim .max1 (.cons (.comp (.tgName 9) (.itVal (.var 4)) (.lit (.bl true)) (.prim .item (.cons (.brw 9 []) (.cons (.lit (.int 0)) .nil))) [9]) .nil)) (.cons (.prim .max1 (.cons (.comp (.tgName 9) (.itVal (.var 4)) (.lit (.bl true)) (.prim .item (.cons (.brw 9 []) (.cons (.lit (.int 1)) .nil))) [9]) .nil)) .nil))))
    (.seq (.asg 6 (.prim .sum (.cons (.comp (.tgTup (.cons (.tgName 19) (.cons (.tgName 20) .nil))) (.itVal (.var 2)) (.lit (.bl true)) (.call 34 .frz (.cons (.var 19) .nil)) [19, 20]) .nil)))
    (.seq (.ife (.prim .not (.cons (.call 16 .frz (.cons (.lst (.cons (.call 11 .frz (.cons (.var 2) .nil)) (.cons (.callK 11 [0] .nil (.cons (.var 2) .nil)) (.cons (.call 10 .frz (.cons (.var 2) .nil)) (.cons (.callK 10 [0] .nil (.cons (.var 2) .nil)) .nil))))) (.cons (.lst (.cons (.var 5) (.cons (.var 5) (.cons (.var 6) (.cons (.var 6) .nil))))) .nil))) .nil)) (.seq (.ret (.lit (.bl false)))
    .skip) .skip)
    (.seq (.forIn (.tgName 7) (.itRange1 (.lit (.int 12))) l36_2)
    (.seq (.par3 13 14 15 (.call 33 .frz (.cons (.io 0 (.own .frz)) (.cons (.lit (.int 0)) .nil))) (.call 33 .frz (.cons (.io 0 (.own .frz)) (.cons (.lit (.int 2)) .nil))) (.call 14 .frz (.cons (.io 0 (.own .frz)) (.cons (.lit (.int 50)) .nil))))
    (.seq (.par 16 17 (.tup (.cons (.lit (.str "prenex")) (.cons (.lit (.int 0)) (.cons (.tup (.cons (.lit (.str "some")) (.cons (.lit (.str "all")) (.cons (.lit (.str "some")) .nil)))) (.cons (.tup (.cons (.lit (.str "and")) (.cons (.tup .nil) .nil))) .nil))))) (.tup (.cons (.lit (.str "defence")) (.cons (.lit (.str "yes")) (.cons (.tup (.cons (.var 13) (.cons (.var 14) .nil))) .nil)))))
    (.seq (.asg 8 (.var 15))
    (.seq (.forIn (.tgName 9) (.itVal (.tup (.cons (.var 13) (.cons (.var 14) .nil)))) l36_0)
    (.seq (.ret (.and (.call 16 .frz (.cons (.lst (.cons (.call 12 .frz (.cons (.var 16) (.cons (.var 17) (.cons (.var 15) .nil)))) (.cons (.callK 12 [2, 1, 0] .nil (.cons (.var 15) (.cons (.var 17) (.cons (.var 16) .nil)))) .nil))) (.cons (.lst (.cons (.var 8) (.cons (.var 8) .nil))) .nil))) (.prim .eq (.cons (.prim .repr (.cons (.brw 2 []) .nil)) (.cons (.brw 3 []) .nil)))))
    .skip)))))))))))))⟩ args := Z_run (fc := f36) rfl n
theorem r37 (n : Nat) : ∃ mk, ∀ args, Z (n + 1) 37 args = runF (Z n) mk ⟨[.frz], .frz, 2, (.seq (.ret (.prim .all (.cons (.comp (.tgName 1) (.itRange1 (.prim .max2 (.cons (.lit (.int 1)) (.cons (.prim .min2 (.cons (.lit (.int 3)) (.cons (.prim .len (.cons (.brw 0 []) .nil)) .nil))) .nil)))) (.lit (.bl true)) (.callM 36 .frz (.own .frz) (.call 13 (.own .frz) (.cons (.var 0) (.cons (.var 1) .nil))) .nil) [1]) .nil)))
    .skip)⟩ args := Z_run (fc := f37) rfl n
theorem L0_0 : l0_0 = (.seq (.asg 2 (.prim .add (.cons (.brw 2 []) (.cons (.prim .mul (.cons (.brw 4 []) (.cons (.prim .item (.cons (.brw 1 []) (.cons (.brw 3 []) .nil))) .nil))) .nil))))
    .skip) := nr rfl
theorem L3_0 : l3_0 = (.seq (.asg 3 (.pop 2 []))
    (.seq (.ife (.prim .isin (.cons (.prim .item (.cons (.brw 3 []) (.cons (.lit (.int 0)) .nil))) (.cons (.lit (.tup [(.str "le"), (.str "into"), (.str "off")])) .nil))) (.seq (.append 1 [] (.var 3))
    .skip) (.seq (.ife (.prim .isin (.cons (.prim .item (.cons (.brw 3 []) (.cons (.lit (.int 0)) .nil))) (.cons (.tup (.cons (.lit (.str "and")) (.cons (.lit (.str "or")) .nil))) .nil))) (.seq (.extend 2 [] (.prim .rev (.cons (.prim .list (.cons (.prim .item (.cons (.brw 3 []) (.cons (.lit (.int 1)) .nil))) .nil)) .nil)))
    .skip) (.seq (.append 2 [] (.prim .item (.cons (.brw 3 []) (.cons (.lit (.int 2)) .nil))))
    .skip))
    .skip))
    .skip)) := nr rfl
theorem L8_0 : l8_0 = (.seq (.ife (.call 2 .frz (.cons (.var 3) (.cons (.var 1) .nil))) (.seq (.ret (.var 2))
    .skip) .skip)
    .skip) := nr rfl
theorem L12_0 : l12_0 = (.seq (.ife (.prim .eq (.cons (.brw 4 []) (.cons (.brw 3 []) .nil))) (.seq (.asgT (.tgTup (.cons (.tgName 7) (.cons (.tgName 8) .nil))) (.call 11 .frz (.cons (.popAt 6 [] (.lit (.int 0))) .nil)))
    (.seq (.asg 5 (.prim .max2 (.cons (.brw 5 []) (.cons (.prim .add (.cons (.prim .mul (.cons (.brw 7 []) (.cons (.brw 5 []) .nil))) (.cons (.brw 8 []) .nil))) .nil))))
    .skip)) .skip)
    .skip) := nr rfl
theorem L19_0 : l19_0 = (.seq (.asg 5 (.prim .sub (.cons (.call 14 .frz (.cons (.io 0 (.own .frz)) (.cons (.prim .add (.cons (.prim .mul (.cons (.lit (.int 2)) (.cons (.brw 2 []) .nil))) (.cons (.lit (.int 1)) .nil))) .nil))) (.cons (.brw 2 []) .nil))))
    (.seq (.ife (.prim .eq (.cons (.brw 5 []) (.cons (.lit (.int 1)) .nil))) (.seq (.asg 3 (.tup (.cons (.lit (.str "plus")) (.cons (.var 3) (.cons (.call 18 .frz (.cons (.var 4) .nil)) .nil)))))
    .skip) (.seq (.ife (.prim .eq (.cons (.brw 5 []) (.cons (.prim .neg (.cons (.lit (.int 1)) .nil)) .nil))) (.seq (.asg 3 (.tup (.cons (.lit (.str "less")) (.cons (.var 3) (.cons (.call 18 .frz (.cons (.var 4) .nil)) .nil)))))
    .skip) (.seq (.ife (.prim .ne (.cons (.brw 5 []) (.cons (.lit (.int 0)) .nil))) (.seq (.asg 3 (.tup (.cons (.lit (.str "plus")) (.cons (.var 3) (.cons (.tup (.cons (.lit (.str "times")) (.cons (.var 5) (.cons (.call 18 .frz (.cons (.var 4) .nil)) .nil)))) .nil)))))
    .skip) .skip)
    .skip))
    .skip))
    .skip)) := nr rfl
theorem L23_0 : l23_0 = (.seq (.setIx 2 [] (.var 5) (.prim .add (.cons (.get (.brw 2 []) (.var 5) (.lit (.int 0))) (.cons (.prim .mul (.cons (.brw 6 []) (.cons (.brw 4 []) .nil))) .nil))))
    .skip) := nr rfl
theorem L23_1 : l23_1 = (.seq (.asg 1 (.prim .add (.cons (.brw 1 []) (.cons (.prim .mul (.cons (.prim .item (.cons (.brw 3 []) (.cons (.lit (.int 0)) .nil))) (.cons (.brw 4 []) .nil))) .nil))))
    (.seq (.forIn (.tgTup (.cons (.tgName 5) (.cons (.tgName 6) .nil))) (.itVal (.prim .item (.cons (.brw 3 []) (.cons (.lit (.int 1)) .nil)))) l23_0)
    .skip)) := nr rfl
theorem L36_0 : l36_0 = (.seq (.asg 18 (.comp (.tgTup (.cons (.tgName 19) (.cons (.tgName 20) .nil))) (.itVal (.var 9)) (.lit (.bl true)) (.call 35 .frz (.cons (.var 20) .nil)) [19, 20]))
    (.seq (.asg 8 (.prim .max2 (.cons (.brw 8 []) (.cons (.prim .add (.cons (.prim .mul (.cons (.prim .max1 (.cons (.comp (.tgName 25) (.itVal (.var 18)) (.lit (.bl true)) (.prim .item (.cons (.brw 25 []) (.cons (.lit (.int 0)) .nil))) [25]) .nil)) (.cons (.brw 8 []) .nil))) (.cons (.prim .max1 (.cons (.comp (.tgName 25) (.itVal (.var 18)) (.lit (.bl true)) (.prim .item (.cons (.brw 25 []) (.cons (.lit (.int 1)) .nil))) [25]) .nil)) .nil))) .nil))))
    .skip)) := nr rfl
theorem L36_1 : l36_1 = (.seq (.asg 21 (.call 29 .frz (.cons (.var 20) (.cons (.var 10) .nil))))
    (.seq (.ife (.prim .not (.cons (.call 16 .frz (.cons (.lst (.cons (.call 7 .frz (.cons (.var 20) (.cons (.prim .list (.cons (.brw 10 []) .nil)) .nil))) (.cons (.callK 7 [1, 0] .nil (.cons (.prim .dictE (.cons (.brw 10 []) .nil)) (.cons (.var 20) .nil))) .nil))) (.cons (.lst (.cons (.var 21) (.cons (.var 21) .nil))) .nil))) .nil)) (.seq (.ret (.lit (.bl false)))
    .skip) .skip)
    .skip)) := nr rfl
theorem L36_2 : l36_2 = (.seq (.asg 10 (.comp (.tgName 22) (.itRange1 (.var 1)) (.lit (.bl true)) (.call 15 .frz (.cons (.io 0 (.own .frz)) (.cons (.lst (.cons (.prim .sub (.cons (.call 14 .frz (.cons (.io 0 (.own .frz)) (.cons (.lit (.int 41)) .nil))) (.cons (.lit (.int 20)) .nil))) (.cons (.prim .add (.cons (.prim .pow (.cons (.lit (.int 10)) (.cons (.lit (.int 12)) .nil))) (.cons (.call 14 .frz (.cons (.io 0 (.own .frz)) (.cons (.lit (.int 99)) .nil))) .nil))) (.cons (.prim .sub (.cons (.prim .neg (.cons (.prim .pow (.cons (.lit (.int 10)) (.cons (.lit (.int 20)) .nil))) .nil)) (.cons (.call 14 .frz (.cons (.io 0 (.own .frz)) (.cons (.lit (.int 99)) .nil))) .nil))) .nil)))) .nil))) [22]))
    (.seq (.forIn (.tgTup (.cons (.tgName 19) (.cons (.tgName 20) .nil))) (.itVal (.var 2)) l36_1)
    (.seq (.asg 11 (.prim .item (.cons (.comp (.tgTup (.cons (.tgName 23) (.cons (.tgName 24) .nil))) (.itEnum (.var 2)) (.call 26 .frz (.cons (.prim .item (.cons (.brw 24 []) (.cons (.lit (.int 0)) .nil))) (.cons (.var 10) .nil))) (.var 23) [23, 24]) (.cons (.lit (.int 0)) .nil))))
    (.seq (.asg 12 (.call 29 .frz (.cons (.prim .item (.cons (.prim .item (.cons (.brw 2 []) (.cons (.brw 11 []) .nil))) (.cons (.lit (.int 1)) .nil))) (.cons (.var 10) .nil))))
    (.seq (.ife (.prim .not (.cons (.call 16 .frz (.cons (.lst (.cons (.call 8 .frz (.cons (.var 2) (.cons (.prim .list (.cons (.brw 10 []) .nil)) .nil))) (.cons (.callK 8 [1, 0] .nil (.cons (.prim .list (.cons (.brw 10 []) .nil)) (.cons (.var 2) .nil))) (.cons (.call 9 .frz (.cons (.var 2) (.cons (.prim .list (.cons (.brw 10 []) .nil)) .nil))) (.cons (.callK 9 [1, 0] .nil (.cons (.prim .list (.cons (.brw 10 []) .nil)) (.cons (.var 2) .nil))) .nil))))) (.cons (.lst (.cons (.var 11) (.cons (.var 11) (.cons (.var 12) (.cons (.var 12) .nil))))) .nil))) .nil)) (.seq (.ret (.lit (.bl false)))
    .skip) .skip)
    (.seq (.ife (.and (.prim .notN (.cons (.brw 12 []) .nil)) (.prim .gt (.cons (.prim .abs (.cons (.brw 12 []) .nil)) (.cons (.prim .add (.cons (.prim .mul (.cons (.prim .item (.cons (.brw 5 []) (.cons (.lit (.int 0)) .nil))) (.cons (.prim .max1 (.cons (.comp (.tgName 9) (.itVal (.var 10)) (.lit (.bl true)) (.prim .abs (.cons (.brw 9 []) .nil)) [9]) .nil)) .nil))) (.cons (.prim .item (.cons (.brw 5 []) (.cons (.lit (.int 1)) .nil))) .nil))) .nil)))) (.seq (.ret (.lit (.bl false)))
    .skip) .skip)
    .skip)))))) := nr rfl
end K60
end

section
set_option Elab.async false
set_option linter.all false
set_option maxRecDepth 100000
set_option maxHeartbeats 1000000
namespace K60
open PySem L2 PV
theorem mulOk_l {i j : Int} (h : -18446744073709551616 < i) (h' : i < 18446744073709551616) : mulOk i j = true := by simp [mulOk, h, h']
theorem mulOk_r {i j : Int} (h : -18446744073709551616 < j) (h' : j < 18446744073709551616) : mulOk i j = true := by simp [mulOk, h, h']
structure Pot where
  a : Int
  b : Int
  ha : 0 ≤ a
  hb : 0 ≤ b
  hb2 : b < 2147483648
def Pot.d (p : Pot) : D := .lst [.int p.a, .int p.b]
theorem draw (p : Pot) (s : Int) (h0 : 0 < s) (h1 : s < 1073741824) : ∃ (x : Int) (p' : Pot), 0 ≤ x ∧ x < s ∧ ∀ n, Z (n + 1) 14 [p.d, .int s] = .ok (.int x, [p'.d, .int s]) := by
  by_cases ha : 0 < p.a
  · refine ⟨p.a % s, ⟨p.a / s, p.b, Int.ediv_nonneg p.ha (by omega), p.hb, p.hb2⟩, Int.emod_nonneg _ (by omega), Int.emod_lt_of_pos _ h0, fun n => ?_⟩
    obtain ⟨mk, hm⟩ := r14 n
    rw [hm]
    simp [runF_mk, Pot.d, ha, h0, h1]
  · have hb := p.hb
    have hb2 := p.hb2
    have q1 : 0 ≤ (p.b * 40709 + 8623) % 2147483587 := Int.emod_nonneg _ (by decide)
    have q2 : (p.b * 40709 + 8623) % 2147483587 < 2147483587 := Int.emod_lt_of_pos _ (by decide)
    refine ⟨(p.b * 40709 + 8623) % 2147483587 * ((p.b * 40709 + 8623) % 2147483587) % 2147483629 / 23 % s, ⟨p.a, (p.b * 40709 + 8623) % 2147483587, p.ha, q1, by omega⟩, Int.emod_nonneg _ (by omega), Int.emod_lt_of_pos _ h0, fun n => ?_⟩
    obtain ⟨mk, hm⟩ := r14 n
    rw [hm]
    have m1 : mulOk p.b 40709 = true := mulOk_r (by decide) (by decide)
    have m2 : mulOk ((p.b * 40709 + 8623) % 2147483587) ((p.b * 40709 + 8623) % 2147483587) = true := mulOk_r (by omega) (by omega)
    simp [runF_mk, Pot.d, ha, h0, h1, m1, m2]
end K60
end

section
set_option Elab.async false
set_option linter.all false
set_option maxRecDepth 100000
set_option maxHeartbeats 1000000
namespace K60
open PySem L2 PV
theorem pick (p : Pot) (ds : List D) (h0 : ds ≠ []) (h1 : ds.length < 1073741824) : ∃ (d : D) (p' : Pot), d ∈ ds ∧ ∀ n, Z (n + 2) 15 [p.d, .lst ds] = .ok (d, [p'.d, .lst ds]) := by
  have hl : 0 < ds.length := List.length_pos_iff.mpr h0
  obtain ⟨x, p', x0, x1, e⟩ := draw p ds.length (by omega) (by omega)
  have hx : x.toNat < ds.length := by omega
  refine ⟨ds[x.toNat], p', List.getElem_mem _, fun n => ?_⟩
  obtain ⟨mk, hm⟩ := r15 (n + 1)
  rw [hm]
  simp [runF_mk, e, x0, x1, hx]
theorem lawn (d : D) : ∀ n, Z (n + 1) 17 [d] = .ok (.tup [.str "number", d], [d]) := fun n => by
  obtain ⟨mk, hm⟩ := r17 n
  rw [hm]
  simp [runF_mk, lim]
theorem lawv (d : D) : ∀ n, Z (n + 1) 18 [d] = .ok (.tup [.str "name", d], [d]) := fun n => by
  obtain ⟨mk, hm⟩ := r18 n
  rw [hm]
  simp [runF_mk, lim]
theorem is_non : ∀ n, Z (n + 1) 16 [.non, .non] = .ok (.bl true, [.non, .non]) := fun n => by
  obtain ⟨mk, hm⟩ := r16 n
  rw [hm]
  simp [runF_mk]
theorem is_int (i : Int) : ∀ n, Z (n + 1) 16 [.int i, .int i] = .ok (.bl true, [.int i, .int i]) := fun n => by
  obtain ⟨mk, hm⟩ := r16 n
  rw [hm]
  simp [runF_mk, isaD, D.isa]
theorem is_tup (ds : List D) (n : Nat) (hl : ds.length ≤ 1000) (h : ∀ d ∈ ds, Z n 16 [d, d] = .ok (.bl true, [d, d])) : Z (n + 1) 16 [.tup ds, .tup ds] = .ok (.bl true, [.tup ds, .tup ds]) := by
  obtain ⟨mk, hm⟩ := r16 n
  rw [hm]
  have hb : ∀ e, rng (.int (ds.length : Int), e) = .ok ((List.range ds.length).map fun k : Nat => D.int (k : Int), e) := fun e => by rw [rng_ok (by omega) (by omega), Int.toNat_natCast]
  simp only [runF_mk]
  simp [isaD, D.isa, hb]
  rw [compL_flt (fun k : Nat => D.int (k : Int)) (fun _ => none) (List.range ds.length)]
  · simp [filterMap_nn]
  · intro k hk
    have hk' : k < ds.length := List.mem_range.mp hk
    have := h ds[k] (List.getElem_mem _)
    simp [hk', this]
  · simp [lim]; omega
theorem is_lst (ds : List D) (n : Nat) (hl : ds.length ≤ 1000) (h : ∀ d ∈ ds, Z n 16 [d, d] = .ok (.bl true, [d, d])) : Z (n + 1) 16 [.lst ds, .lst ds] = .ok (.bl true, [.lst ds, .lst ds]) := by
  obtain ⟨mk, hm⟩ := r16 n
  rw [hm]
  have hb : ∀ e, rng (.int (ds.length : Int), e) = .ok ((List.range ds.length).map fun k : Nat => D.int (k : Int), e) := fun e => by rw [rng_ok (by omega) (by omega), Int.toNat_natCast]
  simp only [runF_mk]
  simp [isaD, D.isa, hb]
  rw [compL_flt (fun k : Nat => D.int (k : Int)) (fun _ => none) (List.range ds.length)]
  · simp [filterMap_nn]
  · intro k hk
    have hk' : k < ds.length := List.mem_range.mp hk
    have := h ds[k] (List.getElem_mem _)
    simp [hk', this]
  · simp [lim]; omega
end K60
end

section
set_option Elab.async false
set_option linter.all false
set_option maxRecDepth 100000
set_option maxHeartbeats 1000000
namespace K60
open PySem L2 PV
theorem cut_to {α : Type} (xs : List α) (k : Nat) : cut xs none (some (k : Int)) = xs.take k := by
  unfold cut
  rw [HT.sIx_none, HT.sIx_nat]
  simp
theorem cut_one {α : Type} (xs : List α) : cut xs none (some 1) = xs.take 1 := cut_to xs 1
theorem pow18 : powD (.int 10) (.int 18) = some (.int 1000000000000000000) := by simp [powD]
theorem pot_of (cell k : Int) (hc : 0 ≤ cell) (hk : 0 ≤ k) (hk3 : k < 3) : ∃ p : Pot, Pot.d p = .lst [.int (if cell - 1000000000000000000 > 0 then cell - 1000000000000000000 else 0), .int ((cell % 2147483549 * 40507 + 8623 * k + 157) % 2147483563 + 1)] := by
  have q1 : 0 ≤ (cell % 2147483549 * 40507 + 8623 * k + 157) % 2147483563 := Int.emod_nonneg _ (by decide)
  have q2 : (cell % 2147483549 * 40507 + 8623 * k + 157) % 2147483563 < 2147483563 := Int.emod_lt_of_pos _ (by decide)
  exact ⟨⟨if cell - 1000000000000000000 > 0 then cell - 1000000000000000000 else 0, (cell % 2147483549 * 40507 + 8623 * k + 157) % 2147483563 + 1, by split <;> omega, by omega, by omega⟩, rfl⟩
theorem pot (ns : List Int) (k : Nat) (hk : k < 3) : ∃ p : Pot, ∀ n, Z (n + 1) 13 [.lst (ns.map .int), .int k] = .ok (p.d, [.lst (ns.map .int), .int k]) := by
  have m1 : ∀ i : Int, mulOk i 40507 = true := fun i => mulOk_r (by decide) (by decide)
  have m2 : ∀ i : Int, mulOk 8623 i = true := fun i => mulOk_l (by decide) (by decide)
  have m3 : ∀ i : Int, mulOk 311 i = true := fun i => mulOk_l (by decide) (by decide)
  by_cases hl : k < ns.length
  · obtain ⟨p, hp⟩ := pot_of (if ns[k] < 0 then -ns[k] else ns[k]) k (by split <;> omega) (by omega) (by omega)
    refine ⟨p, fun n => ?_⟩
    obtain ⟨mk, hm⟩ := r13 n
    rw [hm, hp]
    simp [runF_mk, hl, m1, m2, lim, pow18]
  · obtain ⟨p, hp⟩ := pot_of (311 * k + 227 + (if (ns.take 1).sum < 0 then -(ns.take 1).sum else (ns.take 1).sum) % 1000003) k (by have := Int.emod_nonneg (if (ns.take 1).sum < 0 then -(ns.take 1).sum else (ns.take 1).sum) (b := 1000003) (by decide); omega) (by omega) (by omega)
    refine ⟨p, fun n => ?_⟩
    obtain ⟨mk, hm⟩ := r13 n
    have sm : sumD (.lst (List.take 1 (List.map D.int ns))) = some (.int (ns.take 1).sum) := by rw [← List.map_take, sumD_map]
    rw [hm, hp]
    simp [runF_mk, hl, m1, m2, m3, lim, pow18, sliceD, cut_one, sm]
/-! ### terms -/
def nmS : Nat → Str
  | 0 => "x"
  | 1 => "y"
  | _ => "z"
inductive T where
  | num (i : Int) | nm (v : Nat) | plus (a b : T) | less (a b : T) | times (k : Int) (a : T)
def T.d : T → D
  | .num i => .tup [.str "number", .int i]
  | .nm v => .tup [.str "name", .str (nmS v)]
  | .plus a b => .tup [.str "plus", a.d, b.d]
  | .less a b => .tup [.str "less", a.d, b.d]
  | .times k a => .tup [.str "times", .int k, a.d]
/-- what _law_term draws -/
inductive TT (many : Nat) : Nat → T → Prop
  | num {i : Int} : -4 ≤ i → i ≤ 4 → TT many 0 (.num i)
  | same {k : Nat} {t : T} : TT many k t → TT many (k + 1) t
  | plus {k v : Nat} {t : T} : TT many k t → v < many → TT many (k + 1) (.plus t (.nm v))
  | less {k v : Nat} {t : T} : TT many k t → v < many → TT many (k + 1) (.less t (.nm v))
  | times {k v : Nat} {t : T} {c : Int} : TT many k t → v < many → -2 ≤ c → c ≤ 2 → TT many (k + 1) (.plus t (.times c (.nm v)))
theorem term_step {cf' mk : CF} {most : Int} {many v : Nat} {names : D} (hm : most = 1 ∨ most = 2) (hv : v < many) (hd : ∀ (p : Pot) (s : Int), 0 < s → s < 1073741824 → ∃ (x : Int) (p' : Pot), 0 ≤ x ∧ x < s ∧ cf' 14 [p.d, .int s] = .ok (.int x, [p'.d, .int s])) (hn : ∀ d : D, cf' 18 [d] = .ok (.tup [.str "name", d], [d]))
    (p : Pot) (k : Nat) (t : T) (ht : TT many k t) (a b : Option (W × D)) (S : PV.S) (hS : S = l19_0) :
    ∃ (p' : Pot) (t' : T) (a' b' : Option (W × D)), TT many (k + 1) t' ∧ trn cf' mk (.tgName 4) S (.str (nmS v)) [some (.own .frz, p.d), some (.frz, names), some (.frz, .int most), some (.frz, t.d), a, b] = .nx [some (.own .frz, p'.d), some (.frz, names), some (.frz, .int most), some (.frz, t'.d), a', b'] := by
  have m2 : ∀ i : Int, mulOk 2 i = true := fun i => mulOk_l (by decide) (by decide)
  obtain ⟨x, p', x0, x1, e⟩ := hd p (2 * most + 1) (by omega) (by omega)
  subst hS
  by_cases c1 : x - most = 1
  · exact ⟨p', .plus t (.nm v), some (.frz, .str (nmS v)), some (.frz, .int (x - most)), .plus ht hv, by simp [L19_0, m2, e, c1, hn, lim, T.d]⟩
  by_cases c2 : x - most = -1
  · exact ⟨p', .less t (.nm v), some (.frz, .str (nmS v)), some (.frz, .int (x - most)), .less ht hv, by simp [L19_0, m2, e, c2, hn, lim, T.d]⟩
  by_cases c3 : x - most = 0
  · exact ⟨p', t, some (.frz, .str (nmS v)), some (.frz, .int (x - most)), .same ht, by simp [L19_0, m2, e, c3, hn, lim, T.d]⟩
  · exact ⟨p', .plus t (.times (x - most) (.nm v)), some (.frz, .str (nmS v)), some (.frz, .int (x - most)), .times ht hv (by omega) (by omega), by simp [L19_0, m2, e, c1, c2, c3, hn, lim, T.d]⟩
end K60
end

section
set_option Elab.async false
set_option linter.all false
set_option maxRecDepth 100000
set_option maxHeartbeats 1000000
namespace K60
open PySem L2 PV
def nmD (v : Nat) : D := .str (nmS v)
theorem term_loop {cf' mk : CF} {most : Int} {many : Nat} {names : D} (hm : most = 1 ∨ most = 2) (hd : ∀ (p : Pot) (s : Int), 0 < s → s < 1073741824 → ∃ (x : Int) (p' : Pot), 0 ≤ x ∧ x < s ∧ cf' 14 [p.d, .int s] = .ok (.int x, [p'.d, .int s])) (hn : ∀ d : D, cf' 18 [d] = .ok (.tup [.str "name", d], [d])) :
    ∀ (vs : List Nat) (_ : ∀ v ∈ vs, v < many) (p : Pot) (k : Nat) (t : T) (ht : TT many k t) (a b : Option (W × D)),
    ∃ (p' : Pot) (t' : T) (a' b' : Option (W × D)), TT many (k + vs.length) t' ∧ forL (trn cf' mk (.tgName 4) l19_0) (vs.map nmD) [some (.own .frz, p.d), some (.frz, names), some (.frz, .int most), some (.frz, t.d), a, b] = .nx [some (.own .frz, p'.d), some (.frz, names), some (.frz, .int most), some (.frz, t'.d), a', b']
  | [], _, p, k, t, ht, a, b => ⟨p, t, a, b, ht, rfl⟩
  | v :: r, h, p, k, t, ht, a, b => by
    obtain ⟨p1, t1, a1, b1, h1, e1⟩ := term_step (mk := mk) hm (h v (by simp)) hd hn p k t ht a b _ rfl
    obtain ⟨p2, t2, a2, b2, h2, e2⟩ := term_loop (mk := mk) hm hd hn r (fun x hx => h x (by simp [hx])) p1 (k + 1) t1 h1 a1 b1
    refine ⟨p2, t2, a2, b2, by rw [List.length_cons, Nat.add_comm r.length 1, ← Nat.add_assoc]; exact h2, ?_⟩
    simp only [List.map_cons, forL, nmD]
    rw [e1, turn_nx]
    exact e2
def nmsD (vs : List Nat) : D := .lst (vs.map nmD)
theorem draw' (n : Nat) (p : Pot) (s : Int) (h0 : 0 < s) (h1 : s < 1073741824) : ∃ (x : Int) (p' : Pot), 0 ≤ x ∧ x < s ∧ Z (n + 1) 14 [p.d, .int s] = .ok (.int x, [p'.d, .int s]) := by
  obtain ⟨x, p', a, b, e⟩ := draw p s h0 h1
  exact ⟨x, p', a, b, e n⟩
theorem term (n many : Nat) (most : Int) (hm : most = 1 ∨ most = 2) (vs : List Nat) (hv : ∀ v ∈ vs, v < many) (p : Pot) : ∃ (t : T) (p' : Pot), TT many vs.length t ∧ Z (n + 2) 19 [p.d, nmsD vs, .int most] = .ok (t.d, [p'.d, nmsD vs, .int most]) := by
  obtain ⟨mk, hmk⟩ := r19 (n + 1)
  obtain ⟨x, p1, x0, x1, e⟩ := draw p 9 (by decide) (by decide)
  obtain ⟨p2, t, a', b', ht, el⟩ := term_loop (mk := mk) (many := many) (names := nmsD vs) hm (draw' n) (fun d => lawv d n) vs hv p1 0 (.num (x - 4)) (.num (by omega) (by omega)) none none
  refine ⟨t, p2, by simpa using ht, ?_⟩
  rw [hmk]
  simp only [T.d] at el
  simp [runF_mk, e, lawn, nmsD] at el ⊢
  rw [el]
  simp
/-! ### surface formulas -/
inductive Wd where
  | lt | le | eq | ne | gt | ge
def Wd.s : Wd → Str
  | .lt => "<" | .le => "<=" | .eq => "=" | .ne => "!=" | .gt => ">" | .ge => ">="
inductive B where
  | is (w : Wd) (a b : T) | into (k : Int) (t : T) | not (b : B) | two (isAnd : Bool) (a b : B)
def aoS (b : Bool) : Str := if b then "and" else "or"
def B.d : B → D
  | .is w a b => .tup [.str "is", .str w.s, a.d, b.d]
  | .into k t => .tup [.str "into", .int k, t.d]
  | .not b => .tup [.str "not", b.d]
  | .two o a b => .tup [.str (aoS o), a.d, b.d]
inductive BB (many l : Nat) : Nat → B → Prop
  | is {k j i : Nat} {w : Wd} {a b : T} : TT many i a → TT many j b → i ≤ l → j ≤ 1 → BB many l (k + 1) (.is w a b)
  | into {k i : Nat} {d : Int} {a : T} : TT many i a → i ≤ l → 2 ≤ d → d ≤ 5 → BB many l (k + 1) (.into d a)
  | not {k : Nat} {b : B} : BB many l k b → BB many l (k + 1) (.not b)
  | two {k : Nat} {o : Bool} {a b : B} : BB many l k a → BB many l k b → BB many l (k + 1) (.two o a b)
theorem atom (n k many : Nat) (most : Int) (hm : most = 1 ∨ most = 2) (vs : List Nat) (hv : ∀ v ∈ vs, v < many) (p : Pot) : ∃ (t : B) (p' : Pot), BB many vs.length (k + 1) t ∧ Z (n + 3) 20 [p.d, nmsD vs, .int most] = .ok (t.d, [p'.d, nmsD vs, .int most]) := by
  obtain ⟨mk, hmk⟩ := r20 (n + 2)
  rw [hmk]
  obtain ⟨x, p1, x0, x1, e⟩ := draw p 4 (by decide) (by decide)
  by_cases hx : x = 0
  · subst hx
    obtain ⟨y, p2, y0, y1, e2⟩ := draw p1 4 (by decide) (by decide)
    obtain ⟨t, p3, ht, e3⟩ := term n many most hm vs hv p2
    refine ⟨.into (2 + y) t, p3, .into ht (Nat.le_refl _) (by omega) (by omega), ?_⟩
    simp [runF_mk, e, e2, e3, lim, B.d]
  · obtain ⟨d, p2, hd, e2⟩ := pick p1 [.str "<", .str "<=", .str "=", .str "!=", .str ">", .str ">="] (by simp) (by simp)
    obtain ⟨t, p3, ht, e3⟩ := term n many most hm vs hv p2
    obtain ⟨u, p4, hu, e4⟩ := term n many 1 (.inl rfl) (vs.take 1) (fun v h => hv v (List.mem_of_mem_take h)) p3
    obtain ⟨w, rfl⟩ : ∃ w : Wd, d = .str w.s := by
      simp only [List.mem_cons, List.not_mem_nil, or_false] at hd
      rcases hd with rfl | rfl | rfl | rfl | rfl | rfl
      · exact ⟨.lt, rfl⟩
      · exact ⟨.le, rfl⟩
      · exact ⟨.eq, rfl⟩
      · exact ⟨.ne, rfl⟩
      · exact ⟨.gt, rfl⟩
      · exact ⟨.ge, rfl⟩
    refine ⟨.is w t u, p4, .is ht hu (Nat.le_refl _) (by simp; omega), ?_⟩
    simp only [nmsD, List.map_take] at e4
    simp [runF_mk, e, hx, e2, e3, e4, lim, B.d, nmsD, sliceD, cut_one] at e3 ⊢
end K60
end

section
set_option Elab.async false
set_option linter.all false
set_option maxRecDepth 100000
set_option maxHeartbeats 1000000
namespace K60
open PySem L2 PV
theorem BB.up {many l : Nat} : ∀ {k : Nat} {b : B}, BB many l k b → BB many l (k + 1) b
  | _, _, .is a b c d => .is a b c d
  | _, _, .into a b c d => .into a b c d
  | _, _, .not h => .not h.up
  | _, _, .two h g => .two h.up g.up
theorem bare (many : Nat) (most : Int) (hm : most = 1 ∨ most = 2) (vs : List Nat) (hv : ∀ v ∈ vs, v < many) : ∀ (dep n : Nat) (p : Pot), ∃ (t : B) (p' : Pot), BB many vs.length (dep + 1) t ∧ Z (n + dep + 4) 21 [p.d, nmsD vs, .int most, .int dep] = .ok (t.d, [p'.d, nmsD vs, .int most, .int dep])
  | 0, n, p => by
    obtain ⟨mk, hmk⟩ := r21 (n + 3)
    rw [show n + 0 + 4 = n + 3 + 1 from rfl, hmk]
    obtain ⟨t, p', ht, e⟩ := atom n 0 many most hm vs hv p
    exact ⟨t, p', ht, by simp [runF_mk, e]⟩
  | d + 1, n, p => by
    obtain ⟨mk, hmk⟩ := r21 (n + d + 4)
    rw [show n + (d + 1) + 4 = n + d + 4 + 1 by omega, hmk]
    obtain ⟨x, p1, x0, x1, e1⟩ := draw p 6 (by decide) (by decide)
    have hpos : (0 : Int) < (d : Int) + 1 := by omega
    by_cases c1 : x < 2
    · obtain ⟨t, p', ht, e⟩ := atom (n + d + 1) (d + 1) many most hm vs hv p1
      exact ⟨t, p', ht, by simp [runF_mk, e1, e, c1, hpos]⟩
    by_cases c2 : x = 2
    · subst c2
      obtain ⟨t, p', ht, e⟩ := bare many most hm vs hv d n p1
      exact ⟨.not t, p', .not ht, by simp [runF_mk, e1, e, hpos, B.d, lim]⟩
    · obtain ⟨o, p2, ho, e2⟩ := pick p1 [.str "and", .str "or"] (by simp) (by simp)
      obtain ⟨t, p3, ht, e3⟩ := bare many most hm vs hv d n p2
      obtain ⟨u, p4, hu, e4⟩ := bare many most hm vs hv d n p3
      obtain ⟨b, rfl⟩ : ∃ b : Bool, o = .str (aoS b) := by
        simp only [List.mem_cons, List.not_mem_nil, or_false] at ho
        rcases ho with rfl | rfl
        · exact ⟨true, rfl⟩
        · exact ⟨false, rfl⟩
      exact ⟨.two b t u, p4, .two ht hu, by simp [runF_mk, e1, e2, e3, e4, c1, c2, hpos, B.d, lim]⟩
/-! ### sums -/
structure Lin where
  c : Int
  ts : List (Int × Int)
def tD (q : Int × Int) : D := .tup [.int q.1, .int q.2]
def Lin.d (l : Lin) : D := .tup [.int l.c, .tup (l.ts.map tD)]
structure Lin.ok (many L : Nat) (M : Int) (l : Lin) : Prop where
  len : l.ts.length ≤ L
  c0 : -M ≤ l.c
  c1 : l.c ≤ M
  ts : ∀ q ∈ l.ts, 0 ≤ q.1 ∧ q.1 < many ∧ -M ≤ q.2 ∧ q.2 ≤ M
/-- a dict of numbers by variables -/
def dcD (ds : List (Int × Int)) : D := .dct (ds.map fun q => .int q.1) (ds.map fun q => .int q.2)
def addT : List (Int × Int) → Int → Int → List (Int × Int)
  | [], v, m => [(v, m)]
  | q :: r, v, m => if q.1 = v then (v, q.2 + m) :: r else q :: addT r v m
def getT : List (Int × Int) → Int → Int
  | [], _ => 0
  | q :: r, v => if q.1 = v then q.2 else getT r v
theorem addT_len : ∀ (ds : List (Int × Int)) (v m : Int), (addT ds v m).length ≤ ds.length + 1
  | [], _, _ => by simp [addT]
  | q :: r, v, m => by
    unfold addT
    split
    · simp
    · simp only [List.length_cons]; have := addT_len r v m; omega
def absI (i : Int) : Int := if i < 0 then -i else i
theorem absI_nn (i : Int) : 0 ≤ absI i := by unfold absI; split <;> omega
def sumA : List (Int × Int) → Int
  | [] => 0
  | q :: r => absI q.2 + sumA r
theorem sumA_nn : ∀ ds : List (Int × Int), 0 ≤ sumA ds
  | [] => by simp [sumA]
  | q :: r => by have := sumA_nn r; have := absI_nn q.2; simp only [sumA]; omega
theorem addT_sum : ∀ (ds : List (Int × Int)) (v m : Int), sumA (addT ds v m) ≤ sumA ds + absI m
  | [], _, _ => by simp [addT, sumA]
  | q :: r, v, m => by
    unfold addT
    split
    · simp only [sumA]
      have : absI (q.2 + m) ≤ absI q.2 + absI m := by unfold absI; split <;> split <;> split <;> omega
      omega
    · simp only [sumA]; have := addT_sum r v m; omega
theorem sumA_mem : ∀ {ds : List (Int × Int)} {q : Int × Int}, q ∈ ds → absI q.2 ≤ sumA ds
  | q :: r, q', h => by
    simp only [sumA]
    rcases List.mem_cons.mp h with rfl | h
    · have := sumA_nn r; omega
    · have := sumA_mem h; have := absI_nn q.2; omega
theorem addT_keys {many : Nat} : ∀ (ds : List (Int × Int)) (v m : Int), 0 ≤ v → v < many → (∀ q ∈ ds, 0 ≤ q.1 ∧ q.1 < many) → ∀ q ∈ addT ds v m, 0 ≤ q.1 ∧ q.1 < many
  | [], v, m, h0, h1, _, q, hq => by simp [addT] at hq; subst hq; exact ⟨h0, h1⟩
  | q :: r, v, m, h0, h1, h, q', hq => by
    unfold addT at hq
    split at hq
    · rcases List.mem_cons.mp hq with rfl | hq
      · exact ⟨h0, h1⟩
      · exact h _ (by simp [hq])
    · rcases List.mem_cons.mp hq with rfl | hq
      · exact h _ (by simp)
      · exact addT_keys r v m h0 h1 (fun x hx => h x (by simp [hx])) q' hq
theorem getT_mem : ∀ (ds : List (Int × Int)) (v : Int), (getT ds v = 0) ∨ ∃ q ∈ ds, q.1 = v ∧ q.2 = getT ds v
  | [], v => .inl rfl
  | q :: r, v => by
    unfold getT
    split
    · rename_i h; exact .inr ⟨q, by simp, h, rfl⟩
    · rcases getT_mem r v with h | ⟨q', h1, h2, h3⟩
      · exact .inl h
      · exact .inr ⟨q', by simp [h1], h2, h3⟩
theorem keyAt_getT : ∀ (ds : List (Int × Int)) (v : Int), (((keyAt (ds.map fun q => D.int q.1) (.int v)).bind fun i => (ds.map fun q => D.int q.2)[i]?).getD (.int 0)) = .int (getT ds v)
  | [], v => rfl
  | q :: r, v => by
    unfold getT
    by_cases h : q.1 = v
    · simp [h]
    · have ih := keyAt_getT r v
      simp [h, Option.bind_map, Function.comp_def] at ih ⊢
      exact ih
theorem keyAt_some : ∀ (ds : List (Int × Int)) (v : Int), v ∈ ds.map (·.1) → ((keyAt (ds.map fun q => D.int q.1) (.int v)).bind fun i => (ds.map fun q => D.int q.2)[i]?) = some (.int (getT ds v))
  | [], v, h => by simp at h
  | q :: r, v, hm => by
    unfold getT
    by_cases h : q.1 = v
    · simp [h]
    · have ih := keyAt_some r v (by simpa [h, Ne.symm h, eq_comm] using hm)
      simp [h, Option.bind_map, Function.comp_def] at ih ⊢
      exact ih
theorem putK_addT : ∀ (ds : List (Int × Int)) (v m : Int), putK (ds.map fun q => D.int q.1) (ds.map fun q => D.int q.2) (.int v) (.int (getT ds v + m)) = ((addT ds v m).map fun q => D.int q.1, (addT ds v m).map fun q => D.int q.2)
  | [], v, m => by simp [PV.putK, getT, addT]
  | q :: r, v, m => by
    by_cases h : q.1 = v
    · simp [PV.putK, getT, addT, h]
    · have ih := putK_addT r v m
      simp only [PV.putK, getT, addT, h, if_neg, not_false_eq_true, List.map_cons, keyAt_cons, same_int, decide_false, Bool.false_eq_true, if_false] at ih ⊢
      cases q2 : keyAt (r.map fun q => D.int q.1) (.int v) with
      | none => simp [q2] at ih ⊢; exact ih
      | some i => simp [q2] at ih ⊢; exact ih
end K60
end

section
set_option Elab.async false
set_option linter.all false
set_option maxRecDepth 100000
set_option maxHeartbeats 1000000
namespace K60
open PySem L2 PV
def foldA (t : Int) : List (Int × Int) → List (Int × Int) → List (Int × Int)
  | ds, [] => ds
  | ds, q :: r => foldA t (addT ds q.1 (q.2 * t)) r
def ptD (q : Lin × Int) : D := .tup [q.1.d, .int q.2]
theorem get2_dc (ds : List (Int × Int)) (v : Int) : get2D (.dct (ds.map fun q => D.int q.1) (ds.map fun q => D.int q.2)) (.int v) (.int 0) = some (.int (getT ds v)) := by
  show (if D.keyS (.int v) = true then some (((keyAt _ _).bind _).getD _) else none) = _
  rw [if_pos (keyS_int v), keyAt_getT]
theorem itm_dc (ds : List (Int × Int)) (v : Int) (h : v ∈ ds.map (·.1)) : itemD (.dct (ds.map fun q => D.int q.1) (ds.map fun q => D.int q.2)) (.int v) = some (.int (getT ds v)) := by
  rw [itemD_dct, if_pos (keyS_int v), keyAt_some ds v h]
theorem made_in {cf' mk : CF} {t : Int} (h0 : -2 ≤ t) (h1 : t ≤ 2) (P : D) (tot : Int) (ln : D) : ∀ (ts ds : List (Int × Int)) (a b : Option (W × D)), ds.length + ts.length < lim →
    ∃ a' b', forL (trn cf' mk (.tgTup (.cons (.tgName 5) (.cons (.tgName 6) .nil))) l23_0) (ts.map tD) [some (.frz, P), some (.frz, .int tot), some (.own .frz, dcD ds), some (.frz, ln), some (.frz, .int t), a, b] = .nx [some (.frz, P), some (.frz, .int tot), some (.own .frz, dcD (foldA t ds ts)), some (.frz, ln), some (.frz, .int t), a', b']
  | [], ds, a, b, _ => ⟨a, b, rfl⟩
  | q :: r, ds, a, b, hl => by
    simp only [List.length_cons] at hl
    have hl2 := addT_len ds q.1 (q.2 * t)
    obtain ⟨a', b', e⟩ := made_in (mk := mk) h0 h1 P tot ln r (addT ds q.1 (q.2 * t)) (some (.frz, .int q.1)) (some (.frz, .int q.2)) (by omega)
    refine ⟨a', b', ?_⟩
    have m : mulOk q.2 t = true := mulOk_r (by omega) (by omega)
    have hlim : ds.length < lim := by omega
    have st : trn cf' mk (.tgTup (.cons (.tgName 5) (.cons (.tgName 6) .nil))) l23_0 (tD q) [some (.frz, P), some (.frz, .int tot), some (.own .frz, dcD ds), some (.frz, ln), some (.frz, .int t), a, b] = .nx [some (.frz, P), some (.frz, .int tot), some (.own .frz, dcD (addT ds q.1 (q.2 * t))), some (.frz, ln), some (.frz, .int t), some (.frz, .int q.1), some (.frz, .int q.2)] := by
      simp [L23_0, tD, dcD, get2_dc, putK_addT, m, hlim]
    simp only [List.map_cons, forL, foldA, st, turn_nx]
    exact e
def totL : Int → List (Lin × Int) → Int
  | s, [] => s
  | s, q :: r => totL (s + q.1.c * q.2) r
def dsL : List (Int × Int) → List (Lin × Int) → List (Int × Int)
  | ds, [] => ds
  | ds, q :: r => dsL (foldA q.2 ds q.1.ts) r
theorem foldA_len (t : Int) : ∀ (ts ds : List (Int × Int)), (foldA t ds ts).length ≤ ds.length + ts.length
  | [], ds => by simp [foldA]
  | q :: r, ds => by
    simp only [foldA, List.length_cons]
    have := foldA_len t r (addT ds q.1 (q.2 * t))
    have := addT_len ds q.1 (q.2 * t)
    omega
def lenL : List (Lin × Int) → Nat
  | [] => 0
  | q :: r => q.1.ts.length + lenL r
theorem made_out {cf' mk : CF} (P : D) : ∀ (qs : List (Lin × Int)) (hq : ∀ q ∈ qs, -2 ≤ q.2 ∧ q.2 ≤ 2) (tot : Int) (ds : List (Int × Int)) (a b c d : Option (W × D)), ds.length + lenL qs < lim →
    ∃ a' b' c' d', forL (trn cf' mk (.tgTup (.cons (.tgName 3) (.cons (.tgName 4) .nil))) l23_1) (qs.map ptD) [some (.frz, P), some (.frz, .int tot), some (.own .frz, dcD ds), a, b, c, d] = .nx [some (.frz, P), some (.frz, .int (totL tot qs)), some (.own .frz, dcD (dsL ds qs)), a', b', c', d']
  | [], _, tot, ds, a, b, c, d, _ => ⟨a, b, c, d, rfl⟩
  | q :: r, hq, tot, ds, a, b, c, d, hl => by
    simp only [lenL] at hl
    have hl2 := foldA_len q.2 q.1.ts ds
    obtain ⟨h0, h1⟩ := hq q (by simp)
    obtain ⟨c1, d1, e1⟩ := made_in (cf' := cf') (mk := mk) h0 h1 P (tot + q.1.c * q.2) q.1.d q.1.ts ds c d (by omega)
    obtain ⟨a2, b2, c2, d2, e2⟩ := made_out (cf' := cf') (mk := mk) P r (fun x hx => hq x (by simp [hx])) (tot + q.1.c * q.2) (foldA q.2 ds q.1.ts) (some (.frz, q.1.d)) (some (.frz, .int q.2)) c1 d1 (by omega)
    refine ⟨a2, b2, c2, d2, ?_⟩
    have m : mulOk q.1.c q.2 = true := mulOk_r (by omega) (by omega)
    have st : trn cf' mk (.tgTup (.cons (.tgName 3) (.cons (.tgName 4) .nil))) l23_1 (ptD q) [some (.frz, P), some (.frz, .int tot), some (.own .frz, dcD ds), a, b, c, d] = .nx [some (.frz, P), some (.frz, .int (tot + q.1.c * q.2)), some (.own .frz, dcD (foldA q.2 ds q.1.ts)), some (.frz, q.1.d), some (.frz, .int q.2), c1, d1] := by
      simp [L23_1, ptD, Lin.d, m] at e1 ⊢
      rw [e1]
      simp
    simp only [List.map_cons, forL, totL, dsL, st, turn_nx]
    exact e2
theorem mem_insI (a : Int) : ∀ (l : List Int) (x : Int), x ∈ insI a l → x = a ∨ x ∈ l
  | [], x, h => by simp [insI] at h; exact .inl h
  | b :: r, x, h => by
    unfold insI at h
    split at h
    · rcases List.mem_cons.mp h with h | h
      · exact .inl h
      · exact .inr h
    · rcases List.mem_cons.mp h with h | h
      · exact .inr (by simp [h])
      · rcases mem_insI a r x h with h | h
        · exact .inl h
        · exact .inr (by simp [h])
theorem mem_sortI : ∀ (l : List Int) (x : Int), x ∈ sortI l → x ∈ l
  | [], x, h => by simp [sortI] at h
  | a :: r, x, h => by
    rcases mem_insI a _ x h with h | h
    · simp [h]
    · have := mem_sortI r x h; simp [this]
theorem len_insI (a : Int) : ∀ (l : List Int), (insI a l).length = l.length + 1
  | [] => rfl
  | b :: r => by
    unfold insI
    split
    · simp
    · simp only [List.length_cons, len_insI a r]
theorem len_sortI : ∀ (l : List Int), (sortI l).length = l.length
  | [] => rfl
  | a :: r => by simp only [sortI, len_insI, len_sortI r, List.length_cons]
def pickT (ds : List (Int × Int)) (v : Int) : Option (Int × Int) := if getT ds v = 0 then none else some (v, getT ds v)
def madeL (qs : List (Lin × Int)) : Lin := ⟨totL 0 qs, (sortI ((dsL [] qs).map (·.1))).filterMap (pickT (dsL [] qs))⟩
theorem dsL_len : ∀ (qs : List (Lin × Int)) (ds : List (Int × Int)), (dsL ds qs).length ≤ ds.length + lenL qs
  | [], ds => by simp [dsL]
  | q :: r, ds => by
    have := dsL_len r (foldA q.2 ds q.1.ts)
    have := foldA_len q.2 q.1.ts ds
    simp only [dsL, lenL]; omega
theorem made (n : Nat) (qs : List (Lin × Int)) (hq : ∀ q ∈ qs, -2 ≤ q.2 ∧ q.2 ≤ 2) (hl : lenL qs ≤ 1000) : Z (n + 1) 23 [.lst (qs.map ptD)] = .ok ((madeL qs).d, [.lst (qs.map ptD)]) := by
  obtain ⟨mk, hmk⟩ := r23 n
  rw [hmk]
  obtain ⟨a, b, c, d, e⟩ := made_out (cf' := Z n) (mk := mk) (.lst (qs.map ptD)) qs hq 0 [] none none none none (by show 0 + _ < lim; unfold lim; omega)
  have hd := dsL_len qs []
  have srt : sortedD (.lst ((dsL [] qs).map fun q => D.int q.1)) = some (.lst ((sortI ((dsL [] qs).map (·.1))).map .int)) := by
    rw [show ((dsL [] qs).map fun q => D.int q.1) = ((dsL [] qs).map (·.1)).map .int by simp, sortedD_map]
  simp only [dcD, List.map_nil] at e
  simp [runF_mk, lim] at e ⊢
  rw [e]
  simp [srt, -itemD_dct]
  rw [compL_flt (fun v : Int => D.int v) (fun v => (pickT (dsL [] qs) v).map tD)]
  · simp [madeL, Lin.d, List.map_filterMap, lim]
  · intro v hv
    have it := itm_dc (dsL [] qs) v (mem_sortI _ _ hv)
    unfold pickT
    by_cases g : getT (dsL [] qs) v = 0
    · simp [it, g, -itemD_dct]
    · simp [it, g, -itemD_dct, tD, lim]
  · rw [len_sortI]; simp [lim]; simp at hd; omega
end K60
end

section
set_option Elab.async false
set_option linter.all false
set_option maxRecDepth 100000
set_option maxHeartbeats 1000000
namespace K60
open PySem L2 PV
theorem foldA_keys {many : Nat} (t : Int) : ∀ (ts ds : List (Int × Int)), (∀ q ∈ ts, 0 ≤ q.1 ∧ q.1 < many) → (∀ q ∈ ds, 0 ≤ q.1 ∧ q.1 < many) → ∀ q ∈ foldA t ds ts, 0 ≤ q.1 ∧ q.1 < many
  | [], ds, _, h => h
  | q :: r, ds, h, g => foldA_keys t r _ (fun x hx => h x (by simp [hx])) (addT_keys ds q.1 _ (h q (by simp)).1 (h q (by simp)).2 g)
theorem abs_mul2 {x M t : Int} (h0 : -M ≤ x) (h1 : x ≤ M) (t0 : -2 ≤ t) (t1 : t ≤ 2) : absI (x * t) ≤ 2 * M := by
  have : t = -2 ∨ t = -1 ∨ t = 0 ∨ t = 1 ∨ t = 2 := by omega
  rcases this with rfl | rfl | rfl | rfl | rfl <;> unfold absI <;> split <;> omega
theorem foldA_sum {M t : Int} (t0 : -2 ≤ t) (t1 : t ≤ 2) : ∀ (ts ds : List (Int × Int)), (∀ q ∈ ts, -M ≤ q.2 ∧ q.2 ≤ M) → sumA (foldA t ds ts) ≤ sumA ds + ts.length * (2 * M)
  | [], ds, _ => by simp [foldA]
  | q :: r, ds, h => by
    have ih := foldA_sum t0 t1 r (addT ds q.1 (q.2 * t)) fun x hx => h x (by simp [hx])
    have a := addT_sum ds q.1 (q.2 * t)
    have b := abs_mul2 (h q (by simp)).1 (h q (by simp)).2 t0 t1
    have e : ((q :: r).length : Int) * (2 * M) = r.length * (2 * M) + 2 * M := by
      rw [List.length_cons, Int.natCast_add, Int.add_mul]; simp
    simp only [foldA]
    omega
theorem len_mul {n : Nat} {M : Int} (hM : 0 ≤ M) (h : n ≤ 3) : (n : Int) * (2 * M) ≤ 6 * M := by
  have : n = 0 ∨ n = 1 ∨ n = 2 ∨ n = 3 := by omega
  rcases this with rfl | rfl | rfl | rfl <;> simp <;> omega
theorem pick_ok {many : Nat} {S : Int} {ds : List (Int × Int)} (hk : ∀ q ∈ ds, 0 ≤ q.1 ∧ q.1 < many) (hs : sumA ds ≤ S) : ((sortI (ds.map (·.1))).filterMap (pickT ds)).length ≤ ds.length ∧ ∀ q ∈ (sortI (ds.map (·.1))).filterMap (pickT ds), 0 ≤ q.1 ∧ q.1 < many ∧ -S ≤ q.2 ∧ q.2 ≤ S := by
  refine ⟨Nat.le_trans (List.length_filterMap_le _ _) (by rw [len_sortI, List.length_map]; exact Nat.le_refl _), fun q hq => ?_⟩
  obtain ⟨v, hv, e⟩ := List.mem_filterMap.mp hq
  unfold pickT at e
  split at e
  · cases e
  · cases e
    obtain ⟨q', hq', rfl⟩ := List.mem_map.mp (mem_sortI _ _ hv)
    obtain ⟨k0, k1⟩ := hk q' hq'
    rcases getT_mem ds q'.1 with h | ⟨q2, h1, h2, h3⟩
    · rename_i hn; exact absurd h hn
    · have := sumA_mem h1
      have : -S ≤ q2.2 ∧ q2.2 ≤ S := by unfold absI at this; split at this <;> omega
      rw [h3] at this
      exact ⟨k0, k1, this.1, this.2⟩
theorem c_mul2 {x M t : Int} (h0 : -M ≤ x) (h1 : x ≤ M) (t0 : -2 ≤ t) (t1 : t ≤ 2) : -(2 * M) ≤ x * t ∧ x * t ≤ 2 * M := by
  have := abs_mul2 h0 h1 t0 t1
  unfold absI at this
  split at this <;> omega
theorem made1 {many L : Nat} {M t : Int} {l : Lin} (hM : 0 ≤ M) (hL : L ≤ 3) (h : l.ok many L M) (t0 : -2 ≤ t) (t1 : t ≤ 2) : (madeL [(l, t)]).ok many L (6 * M) := by
  have hk := foldA_keys (many := many) t l.ts [] (fun q hq => ⟨(h.ts q hq).1, (h.ts q hq).2.1⟩) (by simp)
  have hs := foldA_sum t0 t1 l.ts [] fun q hq => (h.ts q hq).2.2
  have hl := len_mul hM (Nat.le_trans h.len hL)
  have hn := foldA_len t l.ts []
  obtain ⟨p1, p2⟩ := pick_ok hk (Int.le_trans hs (by simp [sumA]; exact hl))
  have hc := c_mul2 h.c0 h.c1 t0 t1
  have hlen := h.len
  simp at hn
  refine ⟨Nat.le_trans p1 (by omega), ?_, ?_, p2⟩
  · show -(6 * M) ≤ totL 0 [(l, t)]
    simp [totL]; omega
  · show totL 0 [(l, t)] ≤ 6 * M
    simp [totL]; omega
theorem made2 {many L1 L2 : Nat} {M1 M2 t u : Int} {l m : Lin} (hM : 0 ≤ M1) (hM2 : 0 ≤ M2) (hL : L1 ≤ 3) (hL2 : L2 ≤ 3) (h : l.ok many L1 M1) (g : m.ok many L2 M2) (t0 : -2 ≤ t) (t1 : t ≤ 2) (u0 : -2 ≤ u) (u1 : u ≤ 2) : (madeL [(l, t), (m, u)]).ok many (L1 + L2) (6 * (M1 + M2)) := by
  have hk := foldA_keys (many := many) t l.ts [] (fun q hq => ⟨(h.ts q hq).1, (h.ts q hq).2.1⟩) (by simp)
  have hs := foldA_sum t0 t1 l.ts [] fun q hq => (h.ts q hq).2.2
  have hl := len_mul hM (Nat.le_trans h.len hL)
  have hn := foldA_len t l.ts []
  have gk := foldA_keys (many := many) u m.ts (foldA t [] l.ts) (fun q hq => ⟨(g.ts q hq).1, (g.ts q hq).2.1⟩) hk
  have gs := foldA_sum u0 u1 m.ts (foldA t [] l.ts) fun q hq => (g.ts q hq).2.2
  have gl := len_mul hM2 (Nat.le_trans g.len hL2)
  have gn := foldA_len u m.ts (foldA t [] l.ts)
  have s0 : sumA [] = 0 := rfl
  obtain ⟨p1, p2⟩ := pick_ok (S := 6 * (M1 + M2)) gk (by omega)
  have hc := c_mul2 h.c0 h.c1 t0 t1
  have gc := c_mul2 g.c0 g.c1 u0 u1
  have hlen := h.len
  have glen := g.len
  simp at hn gn
  refine ⟨Nat.le_trans p1 (by omega), ?_, ?_, p2⟩
  · show -(6 * (M1 + M2)) ≤ totL 0 [(l, t), (m, u)]
    simp [totL]; omega
  · show totL 0 [(l, t), (m, u)] ≤ 6 * (M1 + M2)
    simp [totL]; omega
theorem Lin.ok.up {many L L' : Nat} {M M' : Int} {l : Lin} (h : l.ok many L M) (hL : L ≤ L') (hM : M ≤ M') : l.ok many L' M' :=
  ⟨Nat.le_trans h.len hL, by have := h.c0; omega, by have := h.c1; omega, fun q hq => by obtain ⟨a, b, c, d⟩ := h.ts q hq; exact ⟨a, b, by omega, by omega⟩⟩
/-! ### sums of terms -/
def knownD : Nat → D
  | 0 => .dct [] []
  | 1 => .dct [.str "x"] [.int 0]
  | 2 => .dct [.str "x", .str "y"] [.int 0, .int 1]
  | _ => .dct [.str "x", .str "y", .str "z"] [.int 0, .int 1, .int 2]
theorem kn_item {many v : Nat} (hm : many ≤ 3) (hv : v < many) : itemD (knownD many) (.str (nmS v)) = some (.int v) := by
  have : (many = 1 ∧ v = 0) ∨ (many = 2 ∧ v = 0) ∨ (many = 2 ∧ v = 1) ∨ (many = 3 ∧ v = 0) ∨ (many = 3 ∧ v = 1) ∨ (many = 3 ∧ v = 2) := by omega
  rcases this with ⟨rfl, rfl⟩ | ⟨rfl, rfl⟩ | ⟨rfl, rfl⟩ | ⟨rfl, rfl⟩ | ⟨rfl, rfl⟩ | ⟨rfl, rfl⟩ <;> simp [knownD, nmS, ofString_inj]
def mm : Nat → Int
  | 0 => 4
  | 1 => 60
  | 2 => 396
  | _ => 2412
theorem sum_num (n : Nat) (i : Int) (kn : D) : Z (n + 1) 22 [(T.num i).d, kn] = .ok ((Lin.mk i []).d, [(T.num i).d, kn]) := by
  obtain ⟨mk, hmk⟩ := r22 n
  rw [hmk]
  simp [runF_mk, T.d, Lin.d, lim]
theorem sum_nm (n : Nat) {many v : Nat} (hm : many ≤ 3) (hv : v < many) : Z (n + 1) 22 [(T.nm v).d, knownD many] = .ok ((Lin.mk 0 [((v : Int), 1)]).d, [(T.nm v).d, knownD many]) := by
  obtain ⟨mk, hmk⟩ := r22 n
  rw [hmk]
  have k := kn_item hm hv
  simp [runF_mk, T.d, Lin.d, lim, ofString_inj, k, tD]
theorem sum_times (n : Nat) {t : T} {l : Lin} {kn : D} {c : Int} (h : Z (n + 1) 22 [t.d, kn] = .ok (l.d, [t.d, kn])) (c0 : -2 ≤ c) (c1 : c ≤ 2) (hl : l.ts.length ≤ 3) : Z (n + 2) 22 [(T.times c t).d, kn] = .ok ((madeL [(l, c)]).d, [(T.times c t).d, kn]) := by
  obtain ⟨mk, hmk⟩ := r22 (n + 1)
  rw [hmk]
  have m := made n [(l, c)] (by simp; omega) (by simp [lenL]; omega)
  simp only [List.map_cons, List.map_nil, ptD] at m
  simp [runF_mk, T.d, lim, ofString_inj, h, m]
theorem sum_plus (n : Nat) {t u : T} {l m : Lin} {kn : D} (h : Z (n + 1) 22 [t.d, kn] = .ok (l.d, [t.d, kn])) (g : Z (n + 1) 22 [u.d, kn] = .ok (m.d, [u.d, kn])) (hl : l.ts.length ≤ 3) (gl : m.ts.length ≤ 3) : Z (n + 2) 22 [(T.plus t u).d, kn] = .ok ((madeL [(l, 1), (m, 1)]).d, [(T.plus t u).d, kn]) := by
  obtain ⟨mk, hmk⟩ := r22 (n + 1)
  rw [hmk]
  have m := made n [(l, 1), (m, 1)] (by simp) (by simp [lenL]; omega)
  simp only [List.map_cons, List.map_nil, ptD] at m
  simp [runF_mk, T.d, lim, ofString_inj, h, g, m]
theorem sum_less (n : Nat) {t u : T} {l m : Lin} {kn : D} (h : Z (n + 1) 22 [t.d, kn] = .ok (l.d, [t.d, kn])) (g : Z (n + 1) 22 [u.d, kn] = .ok (m.d, [u.d, kn])) (hl : l.ts.length ≤ 3) (gl : m.ts.length ≤ 3) : Z (n + 2) 22 [(T.less t u).d, kn] = .ok ((madeL [(l, 1), (m, -1)]).d, [(T.less t u).d, kn]) := by
  obtain ⟨mk, hmk⟩ := r22 (n + 1)
  rw [hmk]
  have m := made n [(l, 1), (m, -1)] (by simp) (by simp [lenL]; omega)
  simp only [List.map_cons, List.map_nil, ptD] at m
  simp [runF_mk, T.d, lim, ofString_inj, h, g, m]
theorem mm_step {k : Nat} : mm k ≤ mm (k + 1) ∨ 3 ≤ k := by
  match k with
  | 0 => left; decide
  | 1 => left; decide
  | 2 => left; decide
  | k + 3 => right; omega
theorem mm_add {k : Nat} (h : k ≤ 2) : 0 ≤ mm k ∧ mm k ≤ mm (k + 1) ∧ 6 * (mm k + 6) ≤ mm (k + 1) := by
  have : k = 0 ∨ k = 1 ∨ k = 2 := by omega
  rcases this with rfl | rfl | rfl <;> decide
theorem nm_ok {many v : Nat} (hv : v < many) : (Lin.mk 0 [((v : Int), 1)]).ok many 1 1 := ⟨by simp, by simp, by simp, by simp; omega⟩
theorem sum_ok {many : Nat} (hm : many ≤ 3) : ∀ {k : Nat} {t : T}, TT many k t → k ≤ 3 → ∀ n, ∃ l : Lin, l.ok many k (mm k) ∧ Z (n + k + 3) 22 [t.d, knownD many] = .ok (l.d, [t.d, knownD many])
  | 0, _, .num (i := i) h0 h1, _, n => ⟨⟨i, []⟩, ⟨by simp, by simp [mm]; omega, by simp [mm]; omega, by simp⟩, sum_num (n + 2) i _⟩
  | k + 1, t, .same h, hk, n => by
    obtain ⟨l, hl, e⟩ := sum_ok hm h (by omega) (n + 1)
    exact ⟨l, hl.up (by omega) (mm_add (by omega)).2.1, by rw [show n + (k + 1) + 3 = n + 1 + k + 3 by omega]; exact e⟩
  | k + 1, _, .plus (t := t) (v := v) h hv, hk, n => by
    obtain ⟨l, hl, e⟩ := sum_ok hm h (by omega) n
    have a := mm_add (k := k) (by omega)
    have q := sum_plus (n + k + 2) (t := t) (u := .nm v) e (sum_nm (n + k + 2) hm hv) (by have := hl.len; omega) (by simp)
    exact ⟨_, (made2 (t := 1) (u := 1) a.1 (by decide) (by omega) (by omega) hl (nm_ok hv) (by decide) (by decide) (by decide) (by decide)).up (by omega) (by omega), by rw [show n + (k + 1) + 3 = n + k + 2 + 2 by omega]; exact q⟩
  | k + 1, _, .less (t := t) (v := v) h hv, hk, n => by
    obtain ⟨l, hl, e⟩ := sum_ok hm h (by omega) n
    have a := mm_add (k := k) (by omega)
    have q := sum_less (n + k + 2) (t := t) (u := .nm v) e (sum_nm (n + k + 2) hm hv) (by have := hl.len; omega) (by simp)
    exact ⟨_, (made2 (t := 1) (u := -1) a.1 (by decide) (by omega) (by omega) hl (nm_ok hv) (by decide) (by decide) (by decide) (by decide)).up (by omega) (by omega), by rw [show n + (k + 1) + 3 = n + k + 2 + 2 by omega]; exact q⟩
  | k + 1, _, .times (t := t) (v := v) (c := c) h hv c0 c1, hk, n => by
    obtain ⟨l, hl, e⟩ := sum_ok hm h (by omega) n
    have a := mm_add (k := k) (by omega)
    have m1 := made1 (by decide) (by decide) (nm_ok hv) c0 c1
    have q1 := sum_times (n + k + 1) (t := .nm v) (sum_nm (n + k + 1) hm hv) c0 c1 (by simp)
    have q := sum_plus (n + k + 2) (t := t) (u := .times c (.nm v)) e q1 (by have := hl.len; omega) (by have := m1.len; omega)
    exact ⟨_, (made2 (t := 1) (u := 1) a.1 (by decide) (by omega) (by omega) hl m1 (by decide) (by decide) (by decide) (by decide)).up (by omega) (by omega), by rw [show n + (k + 1) + 3 = n + k + 2 + 2 by omega]; exact q⟩
end K60
end

section
set_option Elab.async false
set_option linter.all false
set_option maxRecDepth 100000
set_option maxHeartbeats 1000000
namespace K60
open PySem L2 PV
def leL (a b : Lin) (add : Int) : Lin := ⟨(madeL [(a, 1), (b, -1)]).c + add, (madeL [(a, 1), (b, -1)]).ts⟩
theorem law_le (n : Nat) {a b : Lin} (add : Int) (ha : a.ts.length ≤ 3) (hb : b.ts.length ≤ 3) : Z (n + 2) 24 [a.d, b.d, .int add] = .ok (.tup [.str "le", (leL a b add).d], [a.d, b.d, .int add]) := by
  obtain ⟨mk, hmk⟩ := r24 (n + 1)
  rw [hmk]
  have m := made n [(a, 1), (b, -1)] (by simp) (by simp [lenL]; omega)
  simp only [List.map_cons, List.map_nil, ptD] at m
  simp [runF_mk, lim, m]
  simp [Lin.d, leL, lim]
theorem leL_ok {many L1 L2 : Nat} {M1 M2 add : Int} {a b : Lin} (hL : L1 ≤ 3) (hL2 : L2 ≤ 3) (hM : 0 ≤ M1) (hM2 : 0 ≤ M2) (h1 : M1 ≤ 2412) (h2 : M2 ≤ 2412) (ha : a.ok many L1 M1) (hb : b.ok many L2 M2) (a0 : 0 ≤ add) (a1 : add ≤ 1) : (leL a b add).ok many 6 100000 := by
  have m := made2 (t := 1) (u := -1) hM hM2 hL hL2 ha hb (by decide) (by decide) (by decide) (by decide)
  refine ⟨Nat.le_trans m.len (by omega), ?_, ?_, fun q hq => ?_⟩
  · have := m.c0; show -100000 ≤ (madeL [(a, 1), (b, -1)]).c + add; omega
  · have := m.c1; show (madeL [(a, 1), (b, -1)]).c + add ≤ 100000; omega
  · obtain ⟨x, y, z, w⟩ := m.ts q hq; exact ⟨x, y, by omega, by omega⟩
/-! ### formulas -/
inductive Fm where
  | le (l : Lin) | div (isInto : Bool) (k : Int) (l : Lin) | two (isAnd : Bool) (f g : Fm) | yes
def ioS (b : Bool) : Str := if b then "into" else "off"
def Fm.d : Fm → D
  | .le l => .tup [.str "le", l.d]
  | .div b k l => .tup [.str (ioS b), .int k, l.d]
  | .two b f g => .tup [.str (aoS b), .tup [f.d, g.d]]
  | .yes => .tup [.str "and", .tup []]
inductive FF (many : Nat) : Nat → Fm → Prop
  | le {h : Nat} {l : Lin} : l.ok many 6 100000 → FF many (h + 1) (.le l)
  | div {h : Nat} {b : Bool} {k : Int} {l : Lin} : 2 ≤ k → k ≤ 5 → l.ok many 6 100000 → FF many (h + 1) (.div b k l)
  | two {h : Nat} {b : Bool} {f g : Fm} : FF many h f → FF many h g → FF many (h + 1) (.two b f g)
  | yes {h : Nat} : FF many (h + 1) .yes
def Wd.neg : Wd → Wd
  | .lt => .ge | .le => .gt | .eq => .ne | .ne => .eq | .gt => .le | .ge => .lt
def isW (w : Wd) (a b : Lin) : Fm := match w with
  | .lt => .le (leL a b 1)
  | .le => .le (leL a b 0)
  | .eq => .two true (.le (leL a b 0)) (.le (leL b a 0))
  | .ne => .two false (.le (leL a b 1)) (.le (leL b a 1))
  | .gt => .le (leL b a 1)
  | .ge => .le (leL b a 0)
def isG (w : Wd) (den : Bool) (a b : Lin) : Fm := isW (if den then w.neg else w) a b
theorem sum_at {many k : Nat} {t : T} (hm : many ≤ 3) (h : TT many k t) (hk : k ≤ 3) (N : Nat) (hN : 6 ≤ N) : ∃ l : Lin, l.ok many k (mm k) ∧ Z N 22 [t.d, knownD many] = .ok (l.d, [t.d, knownD many]) := by
  obtain ⟨l, hl, e⟩ := sum_ok hm h hk (N - k - 3)
  exact ⟨l, hl, by rw [show N - k - 3 + k + 3 = N by omega] at e; exact e⟩
theorem mm_le {k : Nat} (h : k ≤ 3) : 0 ≤ mm k ∧ mm k ≤ 2412 := by
  have : k = 0 ∨ k = 1 ∨ k = 2 ∨ k = 3 := by omega
  rcases this with rfl | rfl | rfl | rfl <;> decide
theorem form_is (n : Nat) {t u : T} {kn : D} {a b : Lin} (w : Wd) (den : Bool) (nx : Int) (e1 : Z (n + 2) 22 [t.d, kn] = .ok (a.d, [t.d, kn])) (e2 : Z (n + 2) 22 [u.d, kn] = .ok (b.d, [u.d, kn])) (ha : a.ts.length ≤ 3) (hb : b.ts.length ≤ 3) :
    Z (n + 3) 25 [(B.is w t u).d, kn, .bl den, .int nx] = .ok (.tup [(isG w den a b).d, .int nx], [(B.is w t u).d, kn, .bl den, .int nx]) := by
  obtain ⟨mk, hmk⟩ := r25 (n + 2)
  rw [hmk]
  have l1 := fun x => law_le n (a := a) (b := b) x ha hb
  have l2 := fun x => law_le n (a := b) (b := a) x hb ha
  cases w <;> cases den <;> simp [runF_mk, B.d, Wd.s, ofString_inj, e1, e2, l1, l2, lim, isG, isW, Wd.neg, Fm.d, aoS, PV.putK]
theorem form_into (n : Nat) {t : T} {kn : D} {a : Lin} (k : Int) (den : Bool) (nx : Int) (e1 : Z (n + 2) 22 [t.d, kn] = .ok (a.d, [t.d, kn])) :
    Z (n + 3) 25 [(B.into k t).d, kn, .bl den, .int nx] = .ok (.tup [(Fm.div (!den) k a).d, .int nx], [(B.into k t).d, kn, .bl den, .int nx]) := by
  obtain ⟨mk, hmk⟩ := r25 (n + 2)
  rw [hmk]
  cases den <;> simp [runF_mk, B.d, ofString_inj, e1, lim, Fm.d, ioS]
theorem form_not (n : Nat) {b : B} {kn d : D} (den : Bool) (nx : Int) (e1 : Z n 25 [b.d, kn, .bl (!den), .int nx] = .ok (d, [b.d, kn, .bl (!den), .int nx])) :
    Z (n + 1) 25 [(B.not b).d, kn, .bl den, .int nx] = .ok (d, [(B.not b).d, kn, .bl den, .int nx]) := by
  obtain ⟨mk, hmk⟩ := r25 n
  rw [hmk]
  simp [runF_mk, B.d, ofString_inj, e1, lim]
theorem form_two (n : Nat) {a b : B} {kn : D} {f g : Fm} (o den : Bool) (nx : Int) (e1 : Z n 25 [a.d, kn, .bl den, .int nx] = .ok (.tup [f.d, .int nx], [a.d, kn, .bl den, .int nx])) (e2 : Z n 25 [b.d, kn, .bl den, .int nx] = .ok (.tup [g.d, .int nx], [b.d, kn, .bl den, .int nx])) :
    Z (n + 1) 25 [(B.two o a b).d, kn, .bl den, .int nx] = .ok (.tup [(Fm.two (o != den) f g).d, .int nx], [(B.two o a b).d, kn, .bl den, .int nx]) := by
  obtain ⟨mk, hmk⟩ := r25 n
  rw [hmk]
  cases o <;> cases den <;> simp [runF_mk, B.d, aoS, ofString_inj, e1, e2, lim, Fm.d, PV.putK]
theorem form_ok {many l : Nat} (hm : many ≤ 3) (hl : l ≤ 3) : ∀ {k : Nat} {b : B}, BB many l k b → ∀ (n : Nat) (den : Bool) (nx : Int), ∃ g : Fm, FF many (k + 1) g ∧ Z (n + k + 6) 25 [b.d, knownD many, .bl den, .int nx] = .ok (.tup [g.d, .int nx], [b.d, knownD many, .bl den, .int nx])
  | k + 1, _, .is (w := w) h1 h2 i1 j1, n, den, nx => by
    obtain ⟨a, ha, e1⟩ := sum_at hm h1 (by omega) (n + k + 4 + 2) (by omega)
    obtain ⟨b, hb, e2⟩ := sum_at hm h2 (by omega) (n + k + 4 + 2) (by omega)
    have i3 := Nat.le_trans i1 hl
    have m1 := mm_le i3
    have m2 := mm_le (Nat.le_trans j1 (by decide : 1 ≤ 3))
    have j3 : _ ≤ 3 := Nat.le_trans j1 (by decide : 1 ≤ 3)
    refine ⟨isG w den a b, ?_, form_is (n + k + 4) w den nx e1 e2 (Nat.le_trans ha.len i3) (Nat.le_trans hb.len j3)⟩
    have x1 := leL_ok (add := 1) i3 j3 m1.1 m2.1 m1.2 m2.2 ha hb (by decide) (by decide)
    have x0 := leL_ok (add := 0) i3 j3 m1.1 m2.1 m1.2 m2.2 ha hb (by decide) (by decide)
    have y1 := leL_ok (add := 1) j3 i3 m2.1 m1.1 m2.2 m1.2 hb ha (by decide) (by decide)
    have y0 := leL_ok (add := 0) j3 i3 m2.1 m1.1 m2.2 m1.2 hb ha (by decide) (by decide)
    cases w <;> cases den <;> first | exact .le x1 | exact .le x0 | exact .le y1 | exact .le y0 | exact .two (.le x0) (.le y0) | exact .two (.le x1) (.le y1)
  | k + 1, _, .into (d := d) h1 i1 d0 d1, n, den, nx => by
    obtain ⟨a, ha, e1⟩ := sum_at hm h1 (by omega) (n + k + 4 + 2) (by omega)
    have m1 := mm_le (Nat.le_trans i1 hl)
    exact ⟨.div (!den) d a, .div d0 d1 (ha.up (by omega) (by omega)), form_into (n + k + 4) d den nx e1⟩
  | k + 1, _, .not h, n, den, nx => by
    obtain ⟨g, hg, e⟩ := form_ok hm hl h n (!den) nx
    have up : ∀ {h : Nat} {f : Fm}, FF many h f → FF many (h + 1) f := fun {h f} z => by
      induction z with
      | le a => exact .le a
      | div a b c => exact .div a b c
      | two _ _ i j => exact .two i j
      | yes => exact .yes
    exact ⟨g, up hg, by rw [show n + (k + 1) + 6 = n + k + 6 + 1 by omega]; exact form_not (n + k + 6) den nx e⟩
  | k + 1, _, .two (o := o) h1 h2, n, den, nx => by
    obtain ⟨f, hf, e1⟩ := form_ok hm hl h1 n den nx
    obtain ⟨g, hg, e2⟩ := form_ok hm hl h2 n den nx
    exact ⟨.two (o != den) f g, .two hf hg, by rw [show n + (k + 1) + 6 = n + k + 6 + 1 by omega]; exact form_two (n + k + 6) o den nx e1 e2⟩
/-- _law_drawn(pot, many, 2, 1) -/
theorem drawn (n many : Nat) (hm : many ≤ 3) (p : Pot) : ∃ (f : Fm) (p' : Pot), FF many 3 f ∧ Z (n + 10) 27 [p.d, .int many, .int 2, .int 1] = .ok (f.d, [p'.d, .int many, .int 2, .int 1]) := by
  obtain ⟨mk, hmk⟩ := r27 (n + 9)
  rw [hmk]
  obtain ⟨b, p1, hb, e1⟩ := bare many 2 (.inr rfl) (List.range many) (fun v h => List.mem_range.mp h) 1 (n + 4) p
  rw [List.length_range] at hb
  obtain ⟨g, hg, e2⟩ := form_ok hm hm hb (n + 1) false many
  refine ⟨g, p1, hg, ?_⟩
  have : many = 0 ∨ many = 1 ∨ many = 2 ∨ many = 3 := by omega
  rcases this with rfl | rfl | rfl | rfl
  all_goals
    simp [nmsD, nmD, nmS, List.range_succ, knownD] at e1 e2
    simp [runF_mk, lim, sliceD, cut, HT.sIx, e1, e2, enumFrom, compL, dict1D, dictPD, PV.pairs, PV.putK, ofString_inj]
end K60
end

section
set_option Elab.async false
set_option linter.all false
set_option maxRecDepth 100000
set_option maxHeartbeats 1000000
namespace K60
open PySem L2 PV
theorem fm_pair : ∀ ys : List (Int × Int), (ys.filterMap fun q => if q.2 = 0 then none else some q).map tD = ys.filterMap fun q => if q.2 = 0 then none else some (tD q)
  | [] => rfl
  | q :: r => by
    by_cases h : q.2 = 0
    · simp [h, fm_pair r]
    · simp [h, fm_pair r]
theorem linear (n many : Nat) (hm : many ≤ 3) (p : Pot) : ∃ (l : Lin) (p' : Pot), l.ok many 3 20 ∧ Z (n + 2) 31 [p.d, .int many] = .ok (l.d, [p'.d, .int many]) := by
  obtain ⟨mk, hmk⟩ := r31 (n + 1)
  rw [hmk]
  obtain ⟨ys, p1, e1, l1, q1⟩ := compL_ex (turn := compT (evE (Z (n + 1)) mk (.lit (.bl true))) (evE (Z (n + 1)) mk (.tup (.cons (.var 3) (.cons (.prim .sub (.cons (.call 14 .frz (.cons (.io 0 (.own .frz)) (.cons (.lit (.int 7)) .nil))) (.cons (.lit (.int 3)) .nil))) .nil)))) (.tgName 3) [3])
    (fun k : Nat => D.int k) tD (fun p : Pot => [some (.own .frz, p.d), some (.frz, .int many), none, none, none]) (fun x y => y.1 = x ∧ -3 ≤ y.2 ∧ y.2 ≤ 3) (List.range many) (fun x hx p => by
      obtain ⟨z, p', z0, z1, e⟩ := draw p 7 (by decide) (by decide)
      exact ⟨(x, z - 3), p', by simp [e, lim, tD], rfl, by simp; omega, by simp; omega⟩) p [] (by simp [lim]; omega)
  obtain ⟨c, p2, c0, c1, e2⟩ := draw p1 41 (by decide) (by decide)
  have rg : ∀ e, rng (.int (many : Int), e) = .ok ((List.range many).map fun k : Nat => D.int (k : Int), e) := fun e => by rw [rng_ok (by omega) (by omega), Int.toNat_natCast]
  rw [List.length_range] at l1
  refine ⟨⟨c - 20, ys.filterMap fun q => if q.2 = 0 then none else some q⟩, p2, ⟨Nat.le_trans (List.length_filterMap_le _ _) (by omega), by simp; omega, by simp; omega, fun q hq => ?_⟩, ?_⟩
  · obtain ⟨q', hq', e⟩ := List.mem_filterMap.mp hq
    split at e
    · cases e
    · cases e
      obtain ⟨x, hx, a, b, d⟩ := q1 _ hq'
      have := List.mem_range.mp hx
      omega
  · simp only [List.nil_append] at e1
    simp [runF_mk, rg, e1, e2, lim]
    rw [compL_flt tD (fun q => if q.2 = 0 then none else some (tD q))]
    · simp [Lin.d, lim, fm_pair]
    · intro q hq
      by_cases h : q.2 = 0
      · simp [tD, h]
      · simp [tD, h, lim]
    · simp [lim]; omega
/-! ### values -/
inductive Vl where
  | over (l : Lin) (k : Int) | fence (low : Bool) (some : List Lin) (rest period k : Int)
def lhS (b : Bool) : Str := if b then "low" else "high"
def Vl.d : Vl → D
  | .over l k => .tup [.str "over", l.d, .int k]
  | .fence b ls r p k => .tup [.str (lhS b), .tup (ls.map Lin.d), .int r, .int p, .int k]
inductive VV (many : Nat) : Vl → Prop
  | over {l : Lin} {k : Int} : l.ok many 3 20 → 1 ≤ k → k ≤ 3 → VV many (.over l k)
  | fence {b : Bool} {ls : List Lin} {r p k : Int} : (∀ l ∈ ls, l.ok many 3 20) → ls.length ≤ 3 → 0 ≤ r → r ≤ 12 → 1 ≤ p → p ≤ 12 → 1 ≤ k → k ≤ 3 → VV many (.fence b ls r p k)
theorem drawn_tail (n many : Nat) (hm : many ≤ 3) (mk : CF) (w2 w3 w4 : Int) (p : Pot) : ∃ (s : Int) (p1 : Pot) (ls : List Lin) (p2 : Pot) (b : Bool) (p3 : Pot), (∀ l ∈ ls, l.ok many 3 20) ∧ ls.length ≤ 3 ∧
    Z (n + 2) 14 [p.d, .int 4] = .ok (.int s, [p1.d, .int 4]) ∧ (∀ e, rng (.int s, e) = .ok ((List.range s.toNat).map fun k : Nat => D.int (k : Int), e)) ∧
    compL (compT (evE (Z (n + 2)) mk (.lit (.bl true))) (evE (Z (n + 2)) mk (.call 31 .frz (.cons (.io 0 (.own .frz)) (.cons (.var 1) .nil)))) (.tgName 6) [6]) ((List.range s.toNat).map fun k : Nat => D.int (k : Int)) [some (.own .frz, p1.d), some (.frz, .int many), some (.frz, .int w2), some (.frz, .int w3), some (.frz, .int w4), none, none] [] = .ok (ls.map Lin.d, [some (.own .frz, p2.d), some (.frz, .int many), some (.frz, .int w2), some (.frz, .int w3), some (.frz, .int w4), none, none]) ∧
    Z (n + 2) 15 [p2.d, .lst [.str "low", .str "high"]] = .ok (.str (lhS b), [p3.d, .lst [.str "low", .str "high"]]) := by
  obtain ⟨s, p1, s0, s1, e1⟩ := draw p 4 (by decide) (by decide)
  obtain ⟨ys, p2, e2, l2, q2⟩ := compL_ex (turn := compT (evE (Z (n + 2)) mk (.lit (.bl true))) (evE (Z (n + 2)) mk (.call 31 .frz (.cons (.io 0 (.own .frz)) (.cons (.var 1) .nil)))) (.tgName 6) [6])
    (fun k : Nat => D.int k) Lin.d (fun p : Pot => [some (.own .frz, p.d), some (.frz, .int many), some (.frz, .int w2), some (.frz, .int w3), some (.frz, .int w4), none, none]) (fun x y => y.ok many 3 20) (List.range s.toNat) (fun x hx p => by
      obtain ⟨l, p', hl, e⟩ := linear n many hm p
      exact ⟨l, p', by simp [e], hl⟩) p1 [] (by simp [lim]; omega)
  obtain ⟨d, p3, hd, e3⟩ := pick p2 [.str "low", .str "high"] (by simp) (by simp)
  obtain ⟨b, rfl⟩ : ∃ b : Bool, d = .str (lhS b) := by
    simp only [List.mem_cons, List.not_mem_nil, or_false] at hd
    rcases hd with rfl | rfl
    · exact ⟨true, rfl⟩
    · exact ⟨false, rfl⟩
  rw [List.length_range] at l2
  exact ⟨s, p1, ys, p2, b, p3, fun l hl => let ⟨_, _, h⟩ := q2 l hl; h, by omega, e1 _, fun e => rng_ok s0 (by omega), by simpa using e2, e3 _⟩
theorem drawn_value (n many : Nat) (hm : many ≤ 3) (p : Pot) : ∃ (v : Vl) (p' : Pot), VV many v ∧ Z (n + 3) 32 [p.d, .int many] = .ok (v.d, [p'.d, .int many]) := by
  obtain ⟨mk, hmk⟩ := r32 (n + 2)
  rw [hmk]
  obtain ⟨x, p1, x0, x1, e1⟩ := draw p 2 (by decide) (by decide)
  by_cases hx : x = 0
  · subst hx
    obtain ⟨l, p2, hl, e2⟩ := linear n many hm p1
    obtain ⟨y, p3, y0, y1, e3⟩ := draw p2 3 (by decide) (by decide)
    exact ⟨.over l (1 + y), p3, .over hl (by omega) (by omega), by simp [runF_mk, e1, e2, e3, Vl.d, lim]⟩
  obtain ⟨k, p2, k0, k1, e2⟩ := draw p1 3 (by decide) (by decide)
  obtain ⟨y, p3, y0, y1, e3⟩ := draw p2 4 (by decide) (by decide)
  obtain ⟨z, p4, z0, z1, e4⟩ := draw p3 4 (by decide) (by decide)
  have hk : k = 0 ∨ k = 1 ∨ k = 2 := by omega
  have m1 : mulOk (1 + k) (1 + y) = true := mulOk_l (by omega) (by omega)
  by_cases hz : 0 < z
  · have hd : (1 + k) * (1 + y) / (1 + k) = 1 + y := Int.mul_ediv_cancel_left _ (by omega)
    obtain ⟨w, p5, w0, w1, e5⟩ := draw p4 (1 + y) (by omega) (by omega)
    have m2 : mulOk (1 + k) w = true := mulOk_l (by omega) (by omega)
    obtain ⟨s, p6, ls, p7, b, p8, hl, hl2, e6, rg, e7, e8⟩ := drawn_tail n many hm mk (1 + k) ((1 + k) * (1 + y)) ((1 + k) * w) p5
    refine ⟨.fence b ls ((1 + k) * w) ((1 + k) * (1 + y)) (1 + k), p8, .fence hl hl2 ?_ ?_ ?_ ?_ (by omega) (by omega), ?_⟩
    · rcases hk with rfl | rfl | rfl <;> omega
    · rcases hk with rfl | rfl | rfl <;> omega
    · rcases hk with rfl | rfl | rfl <;> omega
    · rcases hk with rfl | rfl | rfl <;> omega
    · have c1 : 0 < 1 + k := by omega
      have c2 : 1 + k < 1073741824 := by omega
      simp [runF_mk, e1, hx, e2, e3, e4, m1, hz, hd, e5, m2, c1, c2, e6, rg, e7, e8, lim, Vl.d]
  · obtain ⟨w, p5, w0, w1, e5⟩ := draw p4 ((1 + k) * (1 + y)) (by rcases hk with rfl | rfl | rfl <;> omega) (by rcases hk with rfl | rfl | rfl <;> omega)
    obtain ⟨s, p6, ls, p7, b, p8, hl, hl2, e6, rg, e7, e8⟩ := drawn_tail n many hm mk (1 + k) ((1 + k) * (1 + y)) w p5
    refine ⟨.fence b ls w ((1 + k) * (1 + y)) (1 + k), p8, .fence hl hl2 w0 ?_ ?_ ?_ (by omega) (by omega), ?_⟩
    · rcases hk with rfl | rfl | rfl <;> omega
    · rcases hk with rfl | rfl | rfl <;> omega
    · rcases hk with rfl | rfl | rfl <;> omega
    · simp [runF_mk, e1, hx, e2, e3, e4, m1, hz, e5, e6, rg, e7, e8, lim, Vl.d]
/-! ### plans -/
def pcD (q : Fm × Vl) : D := .tup [q.1.d, q.2.d]
def plD (l : List (Fm × Vl)) : D := .tup (l.map pcD)
theorem plan (n many : Nat) (hm : many ≤ 3) (p : Pot) : ∃ (l : List (Fm × Vl)) (v : Vl) (p' : Pot), (∀ q ∈ l ++ [(Fm.yes, v)], FF many 3 q.1 ∧ VV many q.2) ∧ l.length ≤ 3 ∧ Z (n + 11) 33 [p.d, .int many] = .ok (plD (l ++ [(Fm.yes, v)]), [p'.d, .int many]) := by
  obtain ⟨mk, hmk⟩ := r33 (n + 10)
  rw [hmk]
  obtain ⟨s, p1, s0, s1, e1⟩ := draw p 4 (by decide) (by decide)
  obtain ⟨ys, p2, e2, l2, q2⟩ := compL_ex (turn := compT (evE (Z (n + 10)) mk (.lit (.bl true))) (evE (Z (n + 10)) mk (.tup (.cons (.call 27 .frz (.cons (.io 0 (.own .frz)) (.cons (.var 1) (.cons (.lit (.int 2)) (.cons (.lit (.int 1)) .nil))))) (.cons (.call 32 .frz (.cons (.io 0 (.own .frz)) (.cons (.var 1) .nil))) .nil)))) (.tgName 3) [3])
    (fun k : Nat => D.int k) pcD (fun p : Pot => [some (.own .frz, p.d), some (.frz, .int many), none, none]) (fun x y => FF many 3 y.1 ∧ VV many y.2) (List.range s.toNat) (fun x hx p => by
      obtain ⟨f, p', hf, e⟩ := drawn n many hm p
      obtain ⟨v, p2, hv, e2⟩ := drawn_value (n + 7) many hm p'
      exact ⟨(f, v), p2, by simp [e, e2, lim, pcD], hf, hv⟩) p1 [] (by simp [lim]; omega)
  obtain ⟨v, p3, hv, e3⟩ := drawn_value (n + 7) many hm p2
  rw [List.length_range] at l2
  refine ⟨ys, v, p3, fun q hq => ?_, by omega, ?_⟩
  · rcases List.mem_append.mp hq with h | h
    · exact let ⟨_, _, h⟩ := q2 q h; h
    · simp only [List.mem_cons, List.not_mem_nil, or_false] at h
      subst h
      exact ⟨.yes, hv⟩
  have rg : ∀ e, rng (.int s, e) = .ok ((List.range s.toNat).map fun k : Nat => D.int (k : Int), e) := fun e => rng_ok s0 (by omega)
  have hlen : ys.length + 1 ≤ lim := by simp [lim]; omega
  have l0 : 2 ≤ lim := by decide
  have l1 : 1 ≤ lim := by decide
  simp only [List.nil_append] at e2
  simp [runF_mk, e1, rg, e2, e3, plD, pcD, Fm.d, addD, hlen, l0, l1]
end K60
end

section
set_option Elab.async false
set_option linter.all false
set_option maxRecDepth 100000
set_option maxHeartbeats 1000000
namespace K60
open PySem L2 PV
/-- numbers of variables: a list or dict -/
def ValD (d : D) (x : Int → Int) (many : Nat) : Prop := ∀ v : Int, 0 ≤ v → v < many → itemD d (.int v) = some (.int (x v))
def Lin.at (x : Int → Int) (l : Lin) : Int := l.c + (l.ts.map fun q => q.2 * x q.1).sum
theorem sumD_mapf {α : Type} (f : α → Int) (l : List α) : sumD (.lst (l.map fun q => D.int (f q))) = some (.int (l.map f).sum) := by
  rw [← sumD_map, List.map_map]; rfl
theorem maxD_mapf {α : Type} (f : α → Int) (a : α) (l : List α) : maxD (.lst ((a :: l).map fun q => D.int (f q))) = some (.int (maxI (f a) (l.map f))) := by
  rw [← maxD_map, ← List.map_cons, List.map_map]; rfl
theorem minD_mapf {α : Type} (f : α → Int) (a : α) (l : List α) : minD (.lst ((a :: l).map fun q => D.int (f q))) = some (.int (minI (f a) (l.map f))) := by
  rw [← minD_map, ← List.map_cons, List.map_map]; rfl
theorem mulM {q M i : Int} (h0 : -M ≤ q) (h1 : q ≤ M) (hM : M ≤ 100000) : mulOk q i = true := mulOk_l (by omega) (by omega)
theorem worth_loop {cf' mk : CF} {x : Int → Int} {many : Nat} {d : D} (hd : ValD d x many) (ln : D) : ∀ (ts : List (Int × Int)) (ht : ∀ q ∈ ts, 0 ≤ q.1 ∧ q.1 < many ∧ -100000 ≤ q.2 ∧ q.2 ≤ 100000) (tot : Int) (a b : Option (W × D)),
    ∃ a' b', forL (trn cf' mk (.tgTup (.cons (.tgName 3) (.cons (.tgName 4) .nil))) l0_0) (ts.map tD) [some (.frz, ln), some (.frz, d), some (.frz, .int tot), a, b] = .nx [some (.frz, ln), some (.frz, d), some (.frz, .int (tot + (ts.map fun q => q.2 * x q.1).sum)), a', b']
  | [], _, tot, a, b => ⟨a, b, by simp [forL]⟩
  | q :: r, ht, tot, a, b => by
    obtain ⟨a', b', e⟩ := worth_loop (cf' := cf') (mk := mk) hd ln r (fun y hy => ht y (by simp [hy])) (tot + q.2 * x q.1) (some (.frz, .int q.1)) (some (.frz, .int q.2))
    obtain ⟨k0, k1, k2, k3⟩ := ht q (by simp)
    refine ⟨a', b', ?_⟩
    have m := mulM (i := x q.1) k2 k3 (by decide)
    have st : trn cf' mk (.tgTup (.cons (.tgName 3) (.cons (.tgName 4) .nil))) l0_0 (tD q) [some (.frz, ln), some (.frz, d), some (.frz, .int tot), a, b] = .nx [some (.frz, ln), some (.frz, d), some (.frz, .int (tot + q.2 * x q.1)), some (.frz, .int q.1), some (.frz, .int q.2)] := by
      simp [L0_0, tD, hd q.1 k0 k1, m]
    simp only [List.map_cons, forL, st, turn_nx, List.sum_cons]
    rw [e, Int.add_assoc]
theorem Lin.ok.big {many L : Nat} {M : Int} {l : Lin} (h : l.ok many L M) (hM : M ≤ 100000) : ∀ q ∈ l.ts, 0 ≤ q.1 ∧ q.1 < many ∧ -100000 ≤ q.2 ∧ q.2 ≤ 100000 := fun q hq => by
  obtain ⟨a, b, c, d⟩ := h.ts q hq
  exact ⟨a, b, by omega, by omega⟩
theorem worth (n : Nat) {many L : Nat} {M : Int} {l : Lin} {d : D} {x : Int → Int} (hd : ValD d x many) (h : l.ok many L M) (hM : M ≤ 100000) : Z (n + 1) 0 [l.d, d] = .ok (.int (l.at x), [l.d, d]) := by
  obtain ⟨mk, hmk⟩ := r0 n
  rw [hmk]
  obtain ⟨a, b, e⟩ := worth_loop (cf' := Z n) (mk := mk) hd l.d l.ts (h.big hM) l.c none none
  simp only [Lin.d] at e
  simp [runF_mk, Lin.d, e, Lin.at]
def dvD (a k : Int) : D := if a % k = 0 then .int (a / k) else .non
theorem divided (n : Nat) (a k : Int) (k0 : 0 < k) (k1 : k < 1073741824) : Z (n + 1) 4 [.int a, .int k] = .ok (dvD a k, [.int a, .int k]) := by
  obtain ⟨mk, hmk⟩ := r4 n
  rw [hmk]
  by_cases h : a % k = 0
  · simp [runF_mk, k0, k1, h, dvD]
  · simp [runF_mk, k0, k1, h, dvD]
theorem lin_okd (n : Nat) (l : Lin) : D.okd (n + 3) l.d = true := by
  simp only [Lin.d, okd_tup, okds_cons, okd_int, okds_nil, Bool.true_and, Bool.and_true]
  exact okds_all fun d hd => by
    obtain ⟨q, _, rfl⟩ := List.mem_map.mp hd
    simp [tD]
theorem lins_okd (n : Nat) (ls : List Lin) : D.okds (n + 3) (ls.map Lin.d) = true := okds_all fun d hd => by
  obtain ⟨q, _, rfl⟩ := List.mem_map.mp hd
  exact lin_okd n q
@[simp] theorem lh_over (b : Bool) : (lhS b = Str.ofString "over") = False := by cases b <;> simp [lhS, ofString_inj]
@[simp] theorem lh_low (b : Bool) : (lhS b = Str.ofString "low") = (b = true) := by cases b <;> simp [lhS, ofString_inj]
@[simp] theorem ao_and (b : Bool) : (aoS b = Str.ofString "and") = (b = true) := by cases b <;> simp [aoS, ofString_inj]
@[simp] theorem ao_or (b : Bool) : (aoS b = Str.ofString "or") = (b = false) := by cases b <;> simp [aoS, ofString_inj]
@[simp] theorem ao_le (b : Bool) : (aoS b = Str.ofString "le") = False := by cases b <;> simp [aoS, ofString_inj]
@[simp] theorem ao_into (b : Bool) : (aoS b = Str.ofString "into") = False := by cases b <;> simp [aoS, ofString_inj]
@[simp] theorem ao_off (b : Bool) : (aoS b = Str.ofString "off") = False := by cases b <;> simp [aoS, ofString_inj]
@[simp] theorem io_and (b : Bool) : (ioS b = Str.ofString "and") = False := by cases b <;> simp [ioS, ofString_inj]
@[simp] theorem io_or (b : Bool) : (ioS b = Str.ofString "or") = False := by cases b <;> simp [ioS, ofString_inj]
@[simp] theorem io_le (b : Bool) : (ioS b = Str.ofString "le") = False := by cases b <;> simp [ioS, ofString_inj]
@[simp] theorem io_into (b : Bool) : (ioS b = Str.ofString "into") = (b = true) := by cases b <;> simp [ioS, ofString_inj]
@[simp] theorem io_off (b : Bool) : (ioS b = Str.ofString "off") = (b = false) := by cases b <;> simp [ioS, ofString_inj]
@[simp] theorem lh_over' (b : Bool) : (Str.ofString "over" = lhS b) = False := by cases b <;> simp [lhS, ofString_inj]
@[simp] theorem lh_low' (b : Bool) : (Str.ofString "low" = lhS b) = (b = true) := by cases b <;> simp [lhS, ofString_inj]
@[simp] theorem ao_and' (b : Bool) : (Str.ofString "and" = aoS b) = (b = true) := by cases b <;> simp [aoS, ofString_inj]
@[simp] theorem ao_or' (b : Bool) : (Str.ofString "or" = aoS b) = (b = false) := by cases b <;> simp [aoS, ofString_inj]
@[simp] theorem ao_le' (b : Bool) : (Str.ofString "le" = aoS b) = False := by cases b <;> simp [aoS, ofString_inj]
@[simp] theorem ao_into' (b : Bool) : (Str.ofString "into" = aoS b) = False := by cases b <;> simp [aoS, ofString_inj]
@[simp] theorem ao_off' (b : Bool) : (Str.ofString "off" = aoS b) = False := by cases b <;> simp [aoS, ofString_inj]
@[simp] theorem io_and' (b : Bool) : (Str.ofString "and" = ioS b) = False := by cases b <;> simp [ioS, ofString_inj]
@[simp] theorem io_or' (b : Bool) : (Str.ofString "or" = ioS b) = False := by cases b <;> simp [ioS, ofString_inj]
@[simp] theorem io_le' (b : Bool) : (Str.ofString "le" = ioS b) = False := by cases b <;> simp [ioS, ofString_inj]
@[simp] theorem io_into' (b : Bool) : (Str.ofString "into" = ioS b) = (b = true) := by cases b <;> simp [ioS, ofString_inj]
@[simp] theorem io_off' (b : Bool) : (Str.ofString "off" = ioS b) = (b = false) := by cases b <;> simp [ioS, ofString_inj]
def Vl.at (x : Int → Int) : Vl → D
  | .over l k => dvD (l.at x) k
  | .fence _ [] r _ k => dvD r k
  | .fence true (l :: ls) r p k => dvD (minI (l.at x) (ls.map (Lin.at x)) - 1 - (minI (l.at x) (ls.map (Lin.at x)) - 1 - r) % p) k
  | .fence false (l :: ls) r p k => dvD (maxI (l.at x) (ls.map (Lin.at x)) + 1 + (r - (maxI (l.at x) (ls.map (Lin.at x)) + 1)) % p) k
theorem value_at (n : Nat) {many : Nat} {v : Vl} {d : D} {x : Int → Int} (hd : ValD d x many) (h : VV many v) : Z (n + 2) 7 [v.d, d] = .ok (v.at x, [v.d, d]) := by
  obtain ⟨mk, hmk⟩ := r7 (n + 1)
  rw [hmk]
  cases h with
  | @over l k hl k0 k1 =>
    have w := worth n hd hl (by decide)
    have dv := divided n (l.at x) k (by omega) (by omega)
    simp [runF_mk, Vl.d, Vl.at, w, dv]
  | @fence b ls r p k hl hl2 r0 r1 p0 p1 k0 k1 =>
    have dv := fun a => divided n a k (by omega) (by omega)
    have hp : 0 < p := by omega
    cases ls with
    | nil => simp [runF_mk, Vl.d, Vl.at, dv, ofString_inj, lim]
    | cons l ls =>
      have ok := lins_okd 56 ls
      have ok2 := lin_okd 56 l
      have hn : lhS b = Str.ofString "low" ↔ b = true := by cases b <;> simp [lhS, ofString_inj]
      have e : ∀ env0 : PV.Env, env0 = [some (.frz, (Vl.fence b (l :: ls) r p k).d), some (.frz, d), none, none, some (.frz, .str (lhS b)), some (.frz, .tup ((l :: ls).map Lin.d)), some (.frz, .int r), some (.frz, .int p), some (.frz, .int k), none] →
        compL (compT (evE (Z (n + 1)) mk (.lit (.bl true))) (evE (Z (n + 1)) mk (.call 0 .frz (.cons (.var 9) (.cons (.var 1) .nil)))) (.tgName 9) [9]) ((l :: ls).map Lin.d) env0 [] = .ok ((l :: ls).map fun l => D.int (l.at x), env0) := by
        intro env0 he
        subst he
        rw [compL_map Lin.d (fun l => D.int (l.at x))]
        · simp
        · intro y hy
          have w := worth n hd (hl y hy) (by decide)
          simp [w]
        · simp [lim] at hl2 ⊢; omega
      have e' := e _ rfl
      have mx := maxD_mapf (Lin.at x) l ls
      have mn := minD_mapf (Lin.at x) l ls
      simp only [List.map_cons] at e' mx mn
      simp only [Vl.d, List.map_cons] at e'
      cases b
      · simp [runF_mk, Vl.d, Vl.at, dv, ofString_inj, lim, ok, ok2, e', mx, hp]
      · simp [runF_mk, Vl.d, Vl.at, dv, ofString_inj, lim, ok, ok2, e', mn, hp]
end K60
end

section
set_option Elab.async false
set_option linter.all false
set_option maxRecDepth 100000
set_option maxHeartbeats 1000000
namespace K60
open PySem L2 PV
theorem in29 {cf' mk : CF} {x : Int → Int} {many : Nat} {d : D} (hd : ValD d x many) (ts : List (Int × Int)) (ht : ∀ q ∈ ts, 0 ≤ q.1 ∧ q.1 < many ∧ -100000 ≤ q.2 ∧ q.2 ≤ 100000) (hl : ts.length ≤ 1000) (a0 a2 a3 a4 a5 a6 a7 a8 a9 a10 : Option (W × D)) :
    compL (compT (evE cf' mk (.lit (.bl true))) (evE cf' mk (.prim .mul (.cons (.brw 12 []) (.cons (.prim .item (.cons (.brw 1 []) (.cons (.brw 11 []) .nil))) .nil)))) (.tgTup (.cons (.tgName 11) (.cons (.tgName 12) .nil))) [11, 12]) (ts.map tD) [a0, some (.frz, d), a2, a3, a4, a5, a6, a7, a8, a9, a10, none, none] [] = .ok (ts.map fun q => D.int (q.2 * x q.1), [a0, some (.frz, d), a2, a3, a4, a5, a6, a7, a8, a9, a10, none, none]) := by
  rw [compL_map tD (fun q => D.int (q.2 * x q.1))]
  · simp
  · intro q hq
    obtain ⟨k0, k1, k2, k3⟩ := ht q hq
    have m := mulM (i := x q.1) k2 k3 (by decide)
    simp [tD, hd q.1 k0 k1, m]
  · simp [lim]; omega
theorem value (n : Nat) {many : Nat} {v : Vl} {d : D} {x : Int → Int} (hd : ValD d x many) (h : VV many v) : Z (n + 1) 29 [v.d, d] = .ok (v.at x, [v.d, d]) := by
  obtain ⟨mk, hmk⟩ := r29 n
  rw [hmk]
  cases h with
  | @over l k hl k0 k1 =>
    have i := fun a0 => in29 (cf' := Z n) (mk := mk) hd l.ts (hl.big (by decide)) (by have := hl.len; omega) a0 none none none none none none none none none
    have hk : 0 < k := by omega
    have hk2 : k < 1073741824 := by omega
    by_cases hz : l.at x % k = 0
    · have hz' := hz
      simp only [Lin.at] at hz'
      simp [runF_mk, Vl.d, Vl.at, Lin.d, i, sumD_mapf, hk, hk2, hz', dvD, hz, Lin.at]
    · have hz' := hz
      simp only [Lin.at] at hz'
      simp [runF_mk, Vl.d, Vl.at, Lin.d, i, sumD_mapf, hk, hk2, hz', dvD, hz, Lin.at]
  | @fence b ls r p k hl hl2 r0 r1 p0 p1 k0 k1 =>
    have hp : 0 < p := by omega
    have hp1 : ¬ p < 1 := by omega
    have hk : 0 < k := by omega
    have hk1 : ¬ k < 1 := by omega
    have hk2 : k < 1073741824 := by omega
    cases ls with
    | nil =>
      by_cases hz : r % k = 0
      · simp [runF_mk, Vl.d, Vl.at, ofString_inj, lim, hp1, hk1, hk, hk2, hz, dvD]
      · simp [runF_mk, Vl.d, Vl.at, ofString_inj, lim, hp1, hk1, hk, hk2, hz, dvD]
    | cons l ls =>
      have ok := lins_okd 56 ls
      have ok2 := lin_okd 56 l
      have e' : ∀ a0 a4 a5 a6 a7 a8, compL (compT (evE (Z n) mk (.lit (.bl true))) (evE (Z n) mk (.prim .add (.cons (.prim .item (.cons (.brw 10 []) (.cons (.lit (.int 0)) .nil))) (.cons (.prim .sum (.cons (.comp (.tgTup (.cons (.tgName 11) (.cons (.tgName 12) .nil))) (.itVal (.prim .item (.cons (.brw 10 []) (.cons (.lit (.int 1)) .nil)))) (.lit (.bl true)) (.prim .mul (.cons (.brw 12 []) (.cons (.prim .item (.cons (.brw 1 []) (.cons (.brw 11 []) .nil))) .nil))) [11, 12]) .nil)) .nil)))) (.tgName 10) [10]) ((l :: ls).map Lin.d) [a0, some (.frz, d), none, none, a4, a5, a6, a7, a8, none, none, none, none] [] = .ok ((l :: ls).map fun l => D.int (l.at x), [a0, some (.frz, d), none, none, a4, a5, a6, a7, a8, none, none, none, none]) := by
        intro a0 a4 a5 a6 a7 a8
        rw [compL_map Lin.d (fun l => D.int (l.at x))]
        · simp
        · intro y hy
          have i := fun o => in29 (cf' := Z n) (mk := mk) hd y.ts ((hl y hy).big (by decide)) (by have := (hl y hy).len; omega) a0 none none a4 a5 a6 a7 a8 none o
          simp [Lin.d, i, sumD_mapf, Lin.at]
        · simp [lim] at hl2 ⊢; omega
      have mx := maxD_mapf (Lin.at x) l ls
      have mn := minD_mapf (Lin.at x) l ls
      simp only [List.map_cons] at e' mx mn
      cases b
      · by_cases hz : (maxI (l.at x) (ls.map (Lin.at x)) + 1 + (r - (maxI (l.at x) (ls.map (Lin.at x)) + 1)) % p) % k = 0
        · simp [runF_mk, Vl.d, Vl.at, ofString_inj, lim, ok, ok2, e', mx, hp, hp1, hk1, hk, hk2, hz, dvD]
        · simp [runF_mk, Vl.d, Vl.at, ofString_inj, lim, ok, ok2, e', mx, hp, hp1, hk1, hk, hk2, hz, dvD]
      · by_cases hz : (minI (l.at x) (ls.map (Lin.at x)) - 1 - (minI (l.at x) (ls.map (Lin.at x)) - 1 - r) % p) % k = 0
        · simp [runF_mk, Vl.d, Vl.at, ofString_inj, lim, ok, ok2, e', mn, hp, hp1, hk1, hk, hk2, hz, dvD]
        · simp [runF_mk, Vl.d, Vl.at, ofString_inj, lim, ok, ok2, e', mn, hp, hp1, hk1, hk, hk2, hz, dvD]
/-! ### formulas -/
def Fm.at (x : Int → Int) : Fm → Bool
  | .le l => decide (l.at x ≤ 0)
  | .div b k l => decide (l.at x % k = 0) == b
  | .two b f g => if b then f.at x && g.at x else f.at x || g.at x
  | .yes => true
theorem in26 {cf' mk : CF} {x : Int → Int} {many : Nat} {d : D} (hd : ValD d x many) (ts : List (Int × Int)) (ht : ∀ q ∈ ts, 0 ≤ q.1 ∧ q.1 < many ∧ -100000 ≤ q.2 ∧ q.2 ≤ 100000) (hl : ts.length ≤ 1000) (a0 a2 a3 a4 : Option (W × D)) :
    compL (compT (evE cf' mk (.lit (.bl true))) (evE cf' mk (.prim .mul (.cons (.brw 6 []) (.cons (.prim .item (.cons (.brw 1 []) (.cons (.brw 5 []) .nil))) .nil)))) (.tgTup (.cons (.tgName 5) (.cons (.tgName 6) .nil))) [5, 6]) (ts.map tD) [a0, some (.frz, d), a2, a3, a4, none, none] [] = .ok (ts.map fun q => D.int (q.2 * x q.1), [a0, some (.frz, d), a2, a3, a4, none, none]) := by
  rw [compL_map tD (fun q => D.int (q.2 * x q.1))]
  · simp
  · intro q hq
    obtain ⟨k0, k1, k2, k3⟩ := ht q hq
    have m := mulM (i := x q.1) k2 k3 (by decide)
    simp [tD, hd q.1 k0 k1, m]
  · simp [lim]; omega
theorem allD2 (a b : Bool) : allD (.lst [.bl a, .bl b]) = some (.bl (a && b)) := by rw [show [D.bl a, D.bl b] = [a, b].map .bl from rfl, allD_map]; simp
theorem anyD2 (a b : Bool) : anyD (.lst [.bl a, .bl b]) = some (.bl (a || b)) := by rw [show [D.bl a, D.bl b] = [a, b].map .bl from rfl, anyD_map]; simp
theorem allD0 : allD (.lst []) = some (.bl true) := rfl
theorem is_so {many : Nat} {d : D} {x : Int → Int} (hd : ValD d x many) : ∀ {h : Nat} {f : Fm}, FF many h f → ∀ n, Z (n + h) 26 [f.d, d] = .ok (.bl (f.at x), [f.d, d])
  | h + 1, _, .le (l := l) hl, n => by
    obtain ⟨mk, hmk⟩ := r26 (n + h)
    rw [← Nat.add_assoc, hmk]
    have i := fun a0 => in26 (cf' := Z (n + h)) (mk := mk) hd l.ts (hl.big (by decide)) (by have := hl.len; omega) a0 none none none
    simp [runF_mk, Fm.d, Lin.d, ofString_inj, lim, i, sumD_mapf, Fm.at, Lin.at]
    exact decide_eq_decide.mpr Iff.rfl
  | h + 1, _, .div (b := b) (k := k) (l := l) k0 k1 hl, n => by
    obtain ⟨mk, hmk⟩ := r26 (n + h)
    rw [← Nat.add_assoc, hmk]
    have i := fun a0 => in26 (cf' := Z (n + h)) (mk := mk) hd l.ts (hl.big (by decide)) (by have := hl.len; omega) a0 none none none
    have hk : 0 < k := by omega
    cases b <;> by_cases hz : (l.c + (l.ts.map fun q => q.2 * x q.1).sum) % k = 0 <;> simp [runF_mk, Fm.d, Lin.d, ofString_inj, lim, i, sumD_mapf, Fm.at, Lin.at, hk, hz]
  | h + 1, _, .two (b := b) (f := f) (g := g) hf hg, n => by
    obtain ⟨mk, hmk⟩ := r26 (n + h)
    rw [← Nat.add_assoc, hmk]
    have e1 := is_so hd hf n
    have e2 := is_so hd hg n
    cases b <;> simp [runF_mk, Fm.d, ofString_inj, lim, compL, e1, e2, allD2, anyD2, Fm.at]
  | h + 1, _, .yes, n => by
    obtain ⟨mk, hmk⟩ := r26 (n + h)
    rw [← Nat.add_assoc, hmk]
    simp [runF_mk, Fm.d, ofString_inj, lim, compL, allD0, Fm.at]
theorem holds {many : Nat} {d : D} {x : Int → Int} (hd : ValD d x many) : ∀ {h : Nat} {f : Fm}, FF many h f → ∀ n, Z (n + h + 2) 2 [f.d, d] = .ok (.bl (f.at x), [f.d, d])
  | h + 1, _, .le (l := l) hl, n => by
    obtain ⟨mk, hmk⟩ := r2 (n + h + 2)
    obtain ⟨mk1, hmk1⟩ := r1 (n + h + 1)
    rw [show n + (h + 1) + 2 = n + h + 2 + 1 by omega, hmk]
    have w := worth (n + h) hd hl (by decide)
    have a : Z (n + h + 2) 1 [(Fm.le l).d, d] = .ok (.bl ((Fm.le l).at x), [(Fm.le l).d, d]) := by
      rw [hmk1]
      simp [runF_mk, Fm.d, ofString_inj, lim, w, Fm.at]
    simp [Fm.d] at a
    simp [runF_mk, Fm.d, ofString_inj, lim, a]
  | h + 1, _, .div (b := b) (k := k) (l := l) k0 k1 hl, n => by
    obtain ⟨mk, hmk⟩ := r2 (n + h + 2)
    obtain ⟨mk1, hmk1⟩ := r1 (n + h + 1)
    rw [show n + (h + 1) + 2 = n + h + 2 + 1 by omega, hmk]
    have w := worth (n + h) hd hl (by decide)
    have hk : 0 < k := by omega
    have a : Z (n + h + 2) 1 [(Fm.div b k l).d, d] = .ok (.bl ((Fm.div b k l).at x), [(Fm.div b k l).d, d]) := by
      rw [hmk1]
      cases b <;> by_cases hz : l.at x % k = 0 <;> simp [runF_mk, Fm.d, ofString_inj, lim, w, Fm.at, hk, hz]
    simp [Fm.d] at a
    cases b <;> simp [runF_mk, Fm.d, ofString_inj, lim, a]
  | h + 1, _, .two (b := b) (f := f) (g := g) hf hg, n => by
    obtain ⟨mk, hmk⟩ := r2 (n + h + 2)
    rw [show n + (h + 1) + 2 = n + h + 2 + 1 by omega, hmk]
    have e1 := holds hd hf n
    have e2 := holds hd hg n
    cases b <;> simp [runF_mk, Fm.d, ofString_inj, lim, compL, e1, e2, allD2, anyD2, Fm.at]
  | h + 1, _, .yes, n => by
    obtain ⟨mk, hmk⟩ := r2 (n + h + 2)
    rw [show n + (h + 1) + 2 = n + h + 2 + 1 by omega, hmk]
    simp [runF_mk, Fm.d, ofString_inj, lim, compL, allD0, Fm.at]
end K60
end

section
set_option Elab.async false
set_option linter.all false
set_option maxRecDepth 100000
set_option maxHeartbeats 1000000
namespace K60
open PySem L2 PV
/-! ### pieces -/
def pidx (x : Int → Int) : List (Fm × Vl) → Nat
  | [] => 0
  | q :: r => if q.1.at x then 0 else pidx x r + 1
def told (x : Int → Int) : List (Fm × Vl) → D
  | [] => .non
  | q :: r => if q.1.at x then q.2.at x else told x r
def places (x : Int → Int) : Nat → List (Fm × Vl) → List Int
  | _, [] => []
  | k, q :: r => if q.1.at x then (k : Int) :: places x (k + 1) r else places x (k + 1) r
theorem places_hd {x : Int → Int} : ∀ (pl : List (Fm × Vl)) (k : Nat), (∃ q ∈ pl, q.1.at x = true) → ∃ r, places x k pl = ((k + pidx x pl : Nat) : Int) :: r
  | [], k, h => by simp at h
  | q :: r, k, h => by
    unfold places pidx
    by_cases e : q.1.at x = true
    · simp [e]
    · obtain ⟨q', h1, h2⟩ := h
      have h3 : ∃ q ∈ r, q.1.at x = true := by
        rcases List.mem_cons.mp h1 with rfl | h1
        · exact absurd h2 e
        · exact ⟨q', h1, h2⟩
      obtain ⟨r', e'⟩ := places_hd r (k + 1) h3
      exact ⟨r', by simp [e]; rw [e']; simp; omega⟩
theorem pidx_get {x : Int → Int} : ∀ (pl : List (Fm × Vl)), (∃ q ∈ pl, q.1.at x = true) → ∃ q ∈ pl, pl[pidx x pl]? = some q ∧ told x pl = q.2.at x ∧ pidx x pl < pl.length
  | [], h => by simp at h
  | q :: r, h => by
    unfold pidx told
    by_cases e : q.1.at x = true
    · exact ⟨q, by simp, by simp [e]⟩
    · obtain ⟨q', h1, h2⟩ := h
      have h3 : ∃ q ∈ r, q.1.at x = true := by
        rcases List.mem_cons.mp h1 with rfl | h1
        · exact absurd h2 e
        · exact ⟨q', h1, h2⟩
      obtain ⟨q2, m2, g1, g2, g3⟩ := pidx_get r h3
      exact ⟨q2, by simp [m2], by simp [e]; exact ⟨g1, g2, g3⟩⟩
def PL (many : Nat) (pl : List (Fm × Vl)) : Prop := (∀ q ∈ pl, FF many 3 q.1 ∧ VV many q.2) ∧ pl.length ≤ 4
theorem piece_loop {n : Nat} {mk : CF} {many : Nat} {d : D} {x : Int → Int} (hd : ValD d x many) (P : D) : ∀ (pl : List (Fm × Vl)), (∀ q ∈ pl, FF many 3 q.1) → (∃ q ∈ pl, q.1.at x = true) → ∀ (k : Nat) (a b c : Option (W × D)), ∃ a' b' c',
    forL (trn (Z (n + 5)) mk (.tgTup (.cons (.tgName 2) (.cons (.tgTup (.cons (.tgName 3) (.cons (.tgName 4) .nil))) .nil))) l8_0) (enumFrom k (pl.map pcD)) [some (.frz, P), some (.frz, d), a, b, c] = .ret .frz (.int ((k + pidx x pl : Nat) : Int)) [some (.frz, P), some (.frz, d), a', b', c']
  | [], _, h, k, a, b, c => by simp at h
  | q :: r, hf, h, k, a, b, c => by
    have hq := hf q (by simp)
    have e := holds hd hq n
    by_cases t : q.1.at x = true
    · refine ⟨some (.frz, .int k), some (.frz, q.1.d), some (.frz, q.2.d), ?_⟩
      rw [t] at e
      simp [enumFrom, forL, pcD, L8_0, e, pidx, t]
    · obtain ⟨q', h1, h2⟩ := h
      have h3 : ∃ q ∈ r, q.1.at x = true := by
        rcases List.mem_cons.mp h1 with rfl | h1
        · exact absurd h2 t
        · exact ⟨q', h1, h2⟩
      obtain ⟨a', b', c', e'⟩ := piece_loop (n := n) (mk := mk) hd P r (fun y hy => hf y (by simp [hy])) h3 (k + 1) (some (.frz, .int k)) (some (.frz, q.1.d)) (some (.frz, q.2.d))
      refine ⟨a', b', c', ?_⟩
      have t' : q.1.at x = false := by simpa using t
      rw [t'] at e
      have st : trn (Z (n + 5)) mk (.tgTup (.cons (.tgName 2) (.cons (.tgTup (.cons (.tgName 3) (.cons (.tgName 4) .nil))) .nil))) l8_0 (.tup [.int k, pcD q]) [some (.frz, P), some (.frz, d), a, b, c] = .nx [some (.frz, P), some (.frz, d), some (.frz, .int k), some (.frz, q.1.d), some (.frz, q.2.d)] := by
        simp [pcD, L8_0, e]
      simp only [List.map_cons, enumFrom, forL, st, turn_nx]
      rw [e']
      simp [pidx, t']
      omega
theorem piece_at (n : Nat) {many : Nat} {d : D} {x : Int → Int} (hd : ValD d x many) {pl : List (Fm × Vl)} (hp : PL many pl) (h : ∃ q ∈ pl, q.1.at x = true) : Z (n + 6) 8 [plD pl, d] = .ok (.int (pidx x pl), [plD pl, d]) := by
  obtain ⟨mk, hmk⟩ := r8 (n + 5)
  rw [hmk]
  obtain ⟨a, b, c, e⟩ := piece_loop (n := n) (mk := mk) hd (plD pl) pl (fun q hq => (hp.1 q hq).1) h 0 none none none
  simp only [plD] at e
  simp [runF_mk, plD, e]
theorem told_by (n : Nat) {many : Nat} {d : D} {x : Int → Int} (hd : ValD d x many) {pl : List (Fm × Vl)} (hp : PL many pl) (h : ∃ q ∈ pl, q.1.at x = true) : Z (n + 7) 9 [plD pl, d] = .ok (told x pl, [plD pl, d]) := by
  obtain ⟨mk, hmk⟩ := r9 (n + 6)
  rw [hmk]
  have e := piece_at n hd hp h
  obtain ⟨q, hq, g1, g2, g3⟩ := pidx_get pl h
  have v := value_at (n + 4) hd (hp.1 q hq).2
  have g1' : pl[pidx x pl]'g3 = q := by simpa [List.getElem?_eq_getElem g3] using g1
  simp only [plD] at e
  simp [runF_mk, plD, e, g1', g3, pcD, v, g2]
/-! ### reaches -/
def lrF (l : Lin) : Int := (l.ts.map fun q => absI q.2).sum
def reD (p : Int × Int) : D := .tup [.int p.1, .int p.2]
theorem absD_I (i : Int) : absD (.int i) = some (.int (absI i)) := rfl
theorem linear_reach (n : Nat) (l : Lin) (hl : l.ts.length ≤ 1000) : Z (n + 1) 5 [l.d] = .ok (reD (lrF l, absI l.c), [l.d]) := by
  obtain ⟨mk, hmk⟩ := r5 n
  rw [hmk]
  simp [runF_mk, Lin.d]
  rw [compL_map tD (fun q => D.int (absI q.2))]
  · simp [sumD_mapf (fun q : Int × Int => absI q.2), lim, reD, lrF, -absD_int, absD_I]
  · intro q hq
    simp [tD, -absD_int, absD_I]
  · simp [lim]; omega
def vr : Vl → Int × Int
  | .over l _ => (lrF l, absI l.c)
  | .fence _ [] r _ _ => (0, r)
  | .fence _ (l :: ls) _ p _ => (maxI (lrF l) (ls.map lrF), maxI (absI l.c) (ls.map fun l => absI l.c) + p)
theorem re_okd (n : Nat) (q : Int × Int) : D.okd (n + 1) (reD q) = true := by simp [reD]
theorem reach_by (n : Nat) {many : Nat} {v : Vl} (h : VV many v) : Z (n + 2) 6 [v.d] = .ok (reD (vr v), [v.d]) := by
  obtain ⟨mk, hmk⟩ := r6 (n + 1)
  rw [hmk]
  cases h with
  | @over l k hl k0 k1 =>
    have w := linear_reach n l (by have := hl.len; omega)
    simp [runF_mk, Vl.d, vr, w]
  | @fence b ls r p k hl hl2 r0 r1 p0 p1 k0 k1 =>
    cases ls with
    | nil => simp [runF_mk, Vl.d, vr, compL, lim, reD]
    | cons l ls =>
      have e : ∀ a0 a1 a3 a4, compL (compT (evE (Z (n + 1)) mk (.lit (.bl true))) (evE (Z (n + 1)) mk (.call 5 .frz (.cons (.var 2) .nil))) (.tgName 2) [2]) ((l :: ls).map Lin.d) [a0, a1, none, a3, a4] [] = .ok ((l :: ls).map fun l => reD (lrF l, absI l.c), [a0, a1, none, a3, a4]) := by
        intro a0 a1 a3 a4
        rw [compL_map Lin.d (fun l => reD (lrF l, absI l.c))]
        · simp
        · intro y hy
          have w := linear_reach n y (by have := (hl y hy).len; omega)
          simp [w]
        · simp [lim] at hl2 ⊢; omega
      have e1 : ∀ a0 a1 a2, compL (compT (evE (Z (n + 1)) mk (.lit (.bl true))) (evE (Z (n + 1)) mk (.var 3)) (.tgTup (.cons (.tgName 3) (.cons (.tgName 4) .nil))) [3, 4]) ((l :: ls).map fun l => reD (lrF l, absI l.c)) [a0, a1, a2, none, none] [] = .ok ((l :: ls).map fun l => D.int (lrF l), [a0, a1, a2, none, none]) := by
        intro a0 a1 a2
        rw [compL_map (fun l : Lin => reD (lrF l, absI l.c)) (fun l => D.int (lrF l))]
        · simp
        · intro y hy
          simp [reD]
        · simp [lim] at hl2 ⊢; omega
      have e2 : ∀ a0 a1 a2, compL (compT (evE (Z (n + 1)) mk (.lit (.bl true))) (evE (Z (n + 1)) mk (.var 4)) (.tgTup (.cons (.tgName 3) (.cons (.tgName 4) .nil))) [3, 4]) ((l :: ls).map fun l => reD (lrF l, absI l.c)) [a0, a1, a2, none, none] [] = .ok ((l :: ls).map fun l => D.int (absI l.c), [a0, a1, a2, none, none]) := by
        intro a0 a1 a2
        rw [compL_map (fun l : Lin => reD (lrF l, absI l.c)) (fun l => D.int (absI l.c))]
        · simp
        · intro y hy
          simp [reD]
        · simp [lim] at hl2 ⊢; omega
      have ok : D.okds 59 (ls.map fun l => reD (lrF l, absI l.c)) = true := okds_all fun d hd => by
        obtain ⟨y, _, rfl⟩ := List.mem_map.mp hd
        exact re_okd 58 _
      have ok2 := re_okd 58 (lrF l, absI l.c)
      have m1 := maxD_mapf lrF l ls
      have m2 := maxD_mapf (fun l : Lin => absI l.c) l ls
      simp only [List.map_cons] at e e1 e2 m1 m2
      simp [runF_mk, Vl.d, vr, e, e1, e2, m1, m2, ok, ok2, lim]
      simp [reD]
end K60
end

section
set_option Elab.async false
set_option linter.all false
set_option maxRecDepth 100000
set_option maxHeartbeats 1000000
namespace K60
open PySem L2 PV
def pr : List (Fm × Vl) → Int × Int
  | [] => (0, 0)
  | q :: r => (maxI (vr q.2).1 (r.map fun q => (vr q.2).1), maxI (vr q.2).2 (r.map fun q => (vr q.2).2))
theorem plan_reach (n : Nat) {many : Nat} {pl : List (Fm × Vl)} (hp : PL many pl) (hn : pl ≠ []) : Z (n + 3) 11 [plD pl] = .ok (reD (pr pl), [plD pl]) := by
  obtain ⟨mk, hmk⟩ := r11 (n + 2)
  rw [hmk]
  have hl := hp.2
  have e : ∀ a0 a1 a4 a5, compL (compT (evE (Z (n + 2)) mk (.lit (.bl true))) (evE (Z (n + 2)) mk (.call 6 .frz (.cons (.var 3) .nil))) (.tgTup (.cons (.tgName 2) (.cons (.tgName 3) .nil))) [2, 3]) (pl.map pcD) [a0, a1, none, none, a4, a5] [] = .ok (pl.map fun q => reD (vr q.2), [a0, a1, none, none, a4, a5]) := by
    intro a0 a1 a4 a5
    rw [compL_map pcD (fun q => reD (vr q.2))]
    · simp
    · intro y hy
      have w := reach_by n (hp.1 y hy).2
      simp [pcD, w]
    · simp [lim]; omega
  have e1 : ∀ a0 a1 a2 a3, compL (compT (evE (Z (n + 2)) mk (.lit (.bl true))) (evE (Z (n + 2)) mk (.var 4)) (.tgTup (.cons (.tgName 4) (.cons (.tgName 5) .nil))) [4, 5]) (pl.map fun q => reD (vr q.2)) [a0, a1, a2, a3, none, none] [] = .ok (pl.map fun q => D.int (vr q.2).1, [a0, a1, a2, a3, none, none]) := by
    intro a0 a1 a2 a3
    rw [compL_map (fun q : Fm × Vl => reD (vr q.2)) (fun q => D.int (vr q.2).1)]
    · simp
    · intro y hy
      simp [reD]
    · simp [lim]; omega
  have e2 : ∀ a0 a1 a2 a3, compL (compT (evE (Z (n + 2)) mk (.lit (.bl true))) (evE (Z (n + 2)) mk (.var 5)) (.tgTup (.cons (.tgName 4) (.cons (.tgName 5) .nil))) [4, 5]) (pl.map fun q => reD (vr q.2)) [a0, a1, a2, a3, none, none] [] = .ok (pl.map fun q => D.int (vr q.2).2, [a0, a1, a2, a3, none, none]) := by
    intro a0 a1 a2 a3
    rw [compL_map (fun q : Fm × Vl => reD (vr q.2)) (fun q => D.int (vr q.2).2)]
    · simp
    · intro y hy
      simp [reD]
    · simp [lim]; omega
  cases pl with
  | nil => exact absurd rfl hn
  | cons q r =>
    have m1 := maxD_mapf (fun q : Fm × Vl => (vr q.2).1) q r
    have m2 := maxD_mapf (fun q : Fm × Vl => (vr q.2).2) q r
    simp only [List.map_cons] at e e1 e2 m1 m2
    simp [runF_mk, plD, pr, e, e1, e2, m1, m2, lim]
    simp [reD]
theorem law_reach (n : Nat) {many : Nat} {v : Vl} (h : VV many v) : Z (n + 1) 35 [v.d] = .ok (reD (vr v), [v.d]) := by
  obtain ⟨mk, hmk⟩ := r35 n
  rw [hmk]
  have ie : ∀ (ts : List (Int × Int)) (hl : ts.length ≤ 1000) (a0 a1 a2 : Option (W × D)), compL (compT (evE (Z n) mk (.lit (.bl true))) (evE (Z n) mk (.prim .abs (.cons (.brw 4 []) .nil))) (.tgTup (.cons (.tgName 3) (.cons (.tgName 4) .nil))) [3, 4]) (ts.map tD) [a0, a1, a2, none, none] [] = .ok (ts.map fun q => D.int (absI q.2), [a0, a1, a2, none, none]) := by
    intro ts hl a0 a1 a2
    rw [compL_map tD (fun q => D.int (absI q.2))]
    · simp
    · intro q hq
      simp [tD, -absD_int, absD_I]
    · simp [lim]; omega
  cases h with
  | @over l k hl k0 k1 =>
    have i := ie l.ts (by have := hl.len; omega)
    simp [runF_mk, Vl.d, vr, Lin.d, i, sumD_mapf (fun q : Int × Int => absI q.2), lim, -absD_int, absD_I, reD, lrF]
  | @fence b ls r p k hl hl2 r0 r1 p0 p1 k0 k1 =>
    cases ls with
    | nil => simp [runF_mk, Vl.d, vr, lim, reD]
    | cons l ls =>
      have e : ∀ a0 a1, compL (compT (evE (Z n) mk (.lit (.bl true))) (evE (Z n) mk (.tup (.cons (.prim .sum (.cons (.comp (.tgTup (.cons (.tgName 3) (.cons (.tgName 4) .nil))) (.itVal (.prim .item (.cons (.brw 2 []) (.cons (.lit (.int 1)) .nil)))) (.lit (.bl true)) (.prim .abs (.cons (.brw 4 []) .nil)) [3, 4]) .nil)) (.cons (.prim .abs (.cons (.prim .item (.cons (.brw 2 []) (.cons (.lit (.int 0)) .nil))) .nil)) .nil)))) (.tgName 2) [2]) ((l :: ls).map Lin.d) [a0, a1, none, none, none] [] = .ok ((l :: ls).map fun l => reD (lrF l, absI l.c), [a0, a1, none, none, none]) := by
        intro a0 a1
        rw [compL_map Lin.d (fun l => reD (lrF l, absI l.c))]
        · simp
        · intro y hy
          have i := ie y.ts (by have := (hl y hy).len; omega)
          simp [Lin.d, i, sumD_mapf (fun q : Int × Int => absI q.2), lim, -absD_int, absD_I, reD, lrF]
        · simp [lim] at hl2 ⊢; omega
      have e1 : ∀ a0 a1, compL (compT (evE (Z n) mk (.lit (.bl true))) (evE (Z n) mk (.prim .item (.cons (.brw 2 []) (.cons (.lit (.int 0)) .nil)))) (.tgName 2) [2]) ((l :: ls).map fun l => reD (lrF l, absI l.c)) [a0, a1, none, none, none] [] = .ok ((l :: ls).map fun l => D.int (lrF l), [a0, a1, none, none, none]) := by
        intro a0 a1
        rw [compL_map (fun l : Lin => reD (lrF l, absI l.c)) (fun l => D.int (lrF l))]
        · simp
        · intro y hy
          simp [reD]
        · simp [lim] at hl2 ⊢; omega
      have e2 : ∀ a0 a1, compL (compT (evE (Z n) mk (.lit (.bl true))) (evE (Z n) mk (.prim .item (.cons (.brw 2 []) (.cons (.lit (.int 1)) .nil)))) (.tgName 2) [2]) ((l :: ls).map fun l => reD (lrF l, absI l.c)) [a0, a1, none, none, none] [] = .ok ((l :: ls).map fun l => D.int (absI l.c), [a0, a1, none, none, none]) := by
        intro a0 a1
        rw [compL_map (fun l : Lin => reD (lrF l, absI l.c)) (fun l => D.int (absI l.c))]
        · simp
        · intro y hy
          simp [reD]
        · simp [lim] at hl2 ⊢; omega
      have ok := lins_okd 56 ls
      have ok2 := lin_okd 56 l
      have m1 := maxD_mapf lrF l ls
      have m2 := maxD_mapf (fun l : Lin => absI l.c) l ls
      simp only [List.map_cons] at e e1 e2 m1 m2
      simp [runF_mk, Vl.d, vr, e, e1, e2, m1, m2, ok, ok2, lim]
      simp [reD]
/-! ### atoms -/
def Fm.cnt : Fm → Nat
  | .le _ => 1
  | .div _ _ _ => 1
  | .two _ f g => f.cnt + g.cnt
  | .yes => 0
def Fm.sz : Fm → Nat
  | .le _ => 1
  | .div _ _ _ => 1
  | .two _ f g => f.sz + g.sz + 1
  | .yes => 1
theorem FF.up {many : Nat} : ∀ {h : Nat} {f : Fm}, FF many h f → FF many (h + 1) f
  | _, _, .le a => .le a
  | _, _, .div a b c => .div a b c
  | _, _, .two a b => .two a.up b.up
  | _, _, .yes => .yes
theorem sumD2 (a b : Int) : sumD (.lst [.int a, .int b]) = some (.int (a + b)) := by rw [show [D.int a, D.int b] = [a, b].map .int from rfl, sumD_map]; simp
theorem sumD0 : sumD (.lst []) = some (.int 0) := rfl
theorem law_atoms {many : Nat} : ∀ {h : Nat} {f : Fm}, FF many h f → ∀ n, Z (n + h) 34 [f.d] = .ok (.int f.cnt, [f.d])
  | h + 1, _, .le (l := l) hl, n => by
    obtain ⟨mk, hmk⟩ := r34 (n + h)
    rw [← Nat.add_assoc, hmk]
    simp [runF_mk, Fm.d, ofString_inj, lim, Fm.cnt]
  | h + 1, _, .div (b := b) (k := k) (l := l) k0 k1 hl, n => by
    obtain ⟨mk, hmk⟩ := r34 (n + h)
    rw [← Nat.add_assoc, hmk]
    cases b <;> simp [runF_mk, Fm.d, ofString_inj, lim, Fm.cnt]
  | h + 1, _, .two (b := b) (f := f) (g := g) hf hg, n => by
    obtain ⟨mk, hmk⟩ := r34 (n + h)
    rw [← Nat.add_assoc, hmk]
    have e1 := law_atoms hf n
    have e2 := law_atoms hg n
    cases b <;> simp [runF_mk, Fm.d, ofString_inj, lim, compL, e1, e2, sumD2, Fm.cnt]
  | h + 1, _, .yes, n => by
    obtain ⟨mk, hmk⟩ := r34 (n + h)
    rw [← Nat.add_assoc, hmk]
    simp [runF_mk, Fm.d, ofString_inj, lim, compL, sumD0, Fm.cnt]
theorem strOk_ao (b : Bool) : PyData.strOk (aoS b) = true := by cases b <;> decide +kernel
theorem strOk_io (b : Bool) : PyData.strOk (ioS b) = true := by cases b <;> decide +kernel
theorem strOk_lh (b : Bool) : PyData.strOk (lhS b) = true := by cases b <;> decide +kernel
theorem strOk_le : PyData.strOk (Str.ofString "le") = true := by decide +kernel
theorem strOk_and : PyData.strOk (Str.ofString "and") = true := by decide +kernel
theorem fm_okd {many : Nat} : ∀ {h : Nat} {f : Fm}, FF many h f → ∀ n, D.okd (n + 2 * h + 2) f.d = true
  | h + 1, _, .le (l := l) hl, n => by
    have := lin_okd (n + 2 * h) l
    rw [show n + 2 * (h + 1) + 2 = n + 2 * h + 3 + 1 by omega]
    simp [Fm.d, this, strOk_le]
  | h + 1, _, .div (b := b) (k := k) (l := l) k0 k1 hl, n => by
    have := lin_okd (n + 2 * h) l
    rw [show n + 2 * (h + 1) + 2 = n + 2 * h + 3 + 1 by omega]
    simp [Fm.d, this, strOk_io]
  | h + 1, _, .two (b := b) (f := f) (g := g) hf hg, n => by
    have e1 := fm_okd hf n
    have e2 := fm_okd hg n
    rw [show n + 2 * (h + 1) + 2 = n + 2 * h + 2 + 1 + 1 by omega]
    simp [Fm.d, e1, e2, strOk_ao]
  | h + 1, _, .yes, n => by
    rw [show n + 2 * (h + 1) + 2 = n + 2 * h + 2 + 1 + 1 by omega]
    simp [Fm.d, strOk_and]
def szs : List Fm → Nat
  | [] => 0
  | f :: r => f.sz + szs r
def cnts : List Fm → Nat
  | [] => 0
  | f :: r => f.cnt + cnts r
end K60
end

section
set_option Elab.async false
set_option linter.all false
set_option maxRecDepth 100000
set_option maxHeartbeats 1000000
namespace K60
open PySem L2 PV
def stD (st : List Fm) : List D := (st.map Fm.d).reverse
theorem okds_app (n : Nat) (a b : List D) : D.okds n (a ++ b) = (D.okds n a && D.okds n b) := by
  induction a with
  | nil => simp
  | cons x r ih => simp [ih, Bool.and_assoc]
theorem st_ok {many : Nat} {st : List Fm} (h : ∀ f ∈ st, FF many 3 f) : D.okds 59 (stD st) = true := okds_all fun d hd => by
  simp only [stD, List.mem_reverse] at hd
  obtain ⟨y, hy, rfl⟩ := List.mem_map.mp hd
  exact fm_okd (h y hy) 51
theorem st_cond {cf' mk : CF} {many : Nat} {st : List Fm} (h : ∀ f ∈ st, FF many 3 f) (a0 a1 a3 : Option (W × D)) : evE cf' mk (.prim .ne (.cons (.brw 2 []) (.cons (.lst .nil) .nil))) [a0, a1, some (.own .frz, .lst (stD st)), a3] = .ok (.bl (!st.isEmpty), [a0, a1, some (.own .frz, .lst (stD st)), a3]) := by
  have ok := st_ok h
  have ev : D.eqvs (stD st) [] = st.isEmpty := by
    cases st with
    | nil => simp [stD]
    | cons f r =>
      simp only [stD, List.map_cons, List.reverse_cons, List.isEmpty_cons]
      cases (r.map Fm.d).reverse <;> simp
  simp [lim, ok, ev]
theorem st_le {cf' mk : CF} {l : Lin} {r : List Fm} {fd : List D} (hl : fd.length < lim) (F : D) (a : Option (W × D)) : evS cf' mk l3_0 [some (.frz, F), some (.own .frz, .lst fd), some (.own .frz, .lst (stD (.le l :: r))), a] = .nx [some (.frz, F), some (.own .frz, .lst (fd ++ [(Fm.le l).d])), some (.own .frz, .lst (stD r)), some (.frz, (Fm.le l).d)] := by
  simp [L3_0, stD, Fm.d, ofString_inj, hl]
theorem st_div {cf' mk : CF} {l : Lin} {b : Bool} {k : Int} {r : List Fm} {fd : List D} (hl : fd.length < lim) (F : D) (a : Option (W × D)) : evS cf' mk l3_0 [some (.frz, F), some (.own .frz, .lst fd), some (.own .frz, .lst (stD (.div b k l :: r))), a] = .nx [some (.frz, F), some (.own .frz, .lst (fd ++ [(Fm.div b k l).d])), some (.own .frz, .lst (stD r)), some (.frz, (Fm.div b k l).d)] := by
  cases b <;> simp [L3_0, stD, Fm.d, ofString_inj, hl]
theorem st_two {cf' mk : CF} {f g : Fm} {b : Bool} {r : List Fm} {fd : List D} (hl : r.length ≤ 1000) (F : D) (a : Option (W × D)) : evS cf' mk l3_0 [some (.frz, F), some (.own .frz, .lst fd), some (.own .frz, .lst (stD (.two b f g :: r))), a] = .nx [some (.frz, F), some (.own .frz, .lst fd), some (.own .frz, .lst (stD (f :: g :: r))), some (.frz, (Fm.two b f g).d)] := by
  have h2 : r.length + 2 ≤ lim := by simp [lim]; omega
  have h3 : 2 ≤ lim := by decide
  cases b <;> simp [L3_0, stD, Fm.d, ofString_inj, h2, h3]
theorem st_yes {cf' mk : CF} {r : List Fm} {fd : List D} (hl : r.length ≤ 1000) (F : D) (a : Option (W × D)) : evS cf' mk l3_0 [some (.frz, F), some (.own .frz, .lst fd), some (.own .frz, .lst (stD (.yes :: r))), a] = .nx [some (.frz, F), some (.own .frz, .lst fd), some (.own .frz, .lst (stD r)), some (.frz, Fm.yes.d)] := by
  have h2 : r.length ≤ lim := by simp [lim]; omega
  have h3 : 2 ≤ lim := by decide
  simp [L3_0, stD, Fm.d, ofString_inj, h2, h3]
theorem atoms_loop {cf' mk : CF} {many : Nat} (F : D) : ∀ (N : Nat) (st : List Fm) (fd : List D) (a : Option (W × D)), (∀ f ∈ st, FF many 3 f) → szs st ≤ N → fd.length + 2 * N + st.length ≤ 1000 → ∀ fuel, N < fuel → ∃ fd' a', fd'.length = fd.length + cnts st ∧
    whileL (evE cf' mk (.prim .ne (.cons (.brw 2 []) (.cons (.lst .nil) .nil)))) (evS cf' mk l3_0) fuel [some (.frz, F), some (.own .frz, .lst fd), some (.own .frz, .lst (stD st)), a] = .nx [some (.frz, F), some (.own .frz, .lst fd'), some (.own .frz, .lst []), a']
  | N, [], fd, a, _, _, _, fuel + 1, _ => by
    refine ⟨fd, a, rfl, ?_⟩
    rw [whileL, st_cond (many := many) (by simp)]
    rfl
  | 0, f :: r, fd, a, _, hs, _, _, _ => by cases f <;> simp [szs, Fm.sz] at hs
  | N + 1, .le l :: r, fd, a, hf, hs, hl, fuel + 1, hfu => by
    have hr : ∀ g ∈ r, FF many 3 g := fun g hg => hf g (by simp [hg])
    simp only [List.length_cons, szs, Fm.sz] at hl hs
    obtain ⟨fd', a', h1, h2⟩ := atoms_loop (cf' := cf') (mk := mk) F N r (fd ++ [(Fm.le l).d]) (some (.frz, (Fm.le l).d)) hr (by omega) (by simp; omega) fuel (by omega)
    refine ⟨fd', a', by rw [h1]; simp [cnts, Fm.cnt]; omega, ?_⟩
    rw [whileL, st_cond hf, onR_ok]
    simp only [List.isEmpty_cons, Bool.not_false]
    rw [st_le (by simp [lim]; omega), turn_nx]
    exact h2
  | N + 1, .div b k l :: r, fd, a, hf, hs, hl, fuel + 1, hfu => by
    have hr : ∀ g ∈ r, FF many 3 g := fun g hg => hf g (by simp [hg])
    simp only [List.length_cons, szs, Fm.sz] at hl hs
    obtain ⟨fd', a', h1, h2⟩ := atoms_loop (cf' := cf') (mk := mk) F N r (fd ++ [(Fm.div b k l).d]) (some (.frz, (Fm.div b k l).d)) hr (by omega) (by simp; omega) fuel (by omega)
    refine ⟨fd', a', by rw [h1]; simp [cnts, Fm.cnt]; omega, ?_⟩
    rw [whileL, st_cond hf, onR_ok]
    simp only [List.isEmpty_cons, Bool.not_false]
    rw [st_div (by simp [lim]; omega), turn_nx]
    exact h2
  | N + 1, .two b f g :: r, fd, a, hf, hs, hl, fuel + 1, hfu => by
    have h0 := hf (.two b f g) (by simp)
    have hr : ∀ y ∈ f :: g :: r, FF many 3 y := fun y hy => by
      cases h0 with
      | two p q =>
        rcases List.mem_cons.mp hy with rfl | hy
        · exact p.up
        rcases List.mem_cons.mp hy with rfl | hy
        · exact q.up
        · exact hf y (by simp [hy])
    simp only [List.length_cons, szs, Fm.sz] at hl hs
    obtain ⟨fd', a', h1, h2⟩ := atoms_loop (cf' := cf') (mk := mk) F N (f :: g :: r) fd (some (.frz, (Fm.two b f g).d)) hr (by simp only [szs]; omega) (by simp only [List.length_cons]; omega) fuel (by omega)
    refine ⟨fd', a', by rw [h1]; simp [cnts, Fm.cnt]; omega, ?_⟩
    rw [whileL, st_cond hf, onR_ok]
    simp only [List.isEmpty_cons, Bool.not_false]
    rw [st_two (by omega), turn_nx]
    exact h2
  | N + 1, .yes :: r, fd, a, hf, hs, hl, fuel + 1, hfu => by
    have hr : ∀ g ∈ r, FF many 3 g := fun g hg => hf g (by simp [hg])
    simp only [List.length_cons, szs, Fm.sz] at hl hs
    obtain ⟨fd', a', h1, h2⟩ := atoms_loop (cf' := cf') (mk := mk) F N r fd (some (.frz, Fm.yes.d)) hr (by omega) (by omega) fuel (by omega)
    refine ⟨fd', a', by rw [h1]; simp [cnts, Fm.cnt], ?_⟩
    rw [whileL, st_cond hf, onR_ok]
    simp only [List.isEmpty_cons, Bool.not_false]
    rw [st_yes (by omega), turn_nx]
    exact h2
theorem sz_le {many : Nat} : ∀ {h : Nat} {f : Fm}, FF many h f → h ≤ 3 → f.sz ≤ 7 ∧ (h ≤ 2 → f.sz ≤ 3) ∧ (h ≤ 1 → f.sz ≤ 1)
  | _, _, .le _, _ => by simp [Fm.sz]
  | _, _, .div _ _ _, _ => by simp [Fm.sz]
  | _, _, .yes, _ => by simp [Fm.sz]
  | h + 1, _, .two (h := _) hf hg, hh => by
    have a := sz_le hf (by omega)
    have b := sz_le hg (by omega)
    simp only [Fm.sz]
    refine ⟨?_, fun h2 => ?_, fun h1 => ?_⟩
    · have := a.2.1 (by omega); have := b.2.1 (by omega); omega
    · have := a.2.2 (by omega); have := b.2.2 (by omega); omega
    · have : h = 0 := by omega
      subst this
      cases hf
theorem atoms_of (n : Nat) {many : Nat} {f : Fm} (hf : FF many 3 f) : ∃ fd : List D, fd.length = f.cnt ∧ Z (n + 1) 3 [f.d] = .ok (.lst fd, [f.d]) := by
  obtain ⟨mk, hmk⟩ := r3 n
  have hs := (sz_le hf (by omega)).1
  obtain ⟨fd, a, h1, h2⟩ := atoms_loop (cf' := Z n) (mk := mk) (many := many) f.d 7 [f] [] none (fun g hg => by simp at hg; subst hg; exact hf) (by simp [szs]; exact hs) (by simp) tMost (by have := tMost_ge; omega)
  refine ⟨fd, by rw [h1]; simp [cnts], ?_⟩
  rw [hmk]
  simp only [stD, List.map_cons, List.map_nil, List.reverse_cons, List.reverse_nil, List.nil_append] at h2
  simp [runF_mk, lim, h2]
theorem plan_size (n : Nat) {many : Nat} {pl : List (Fm × Vl)} (hp : PL many pl) : Z (n + 2) 10 [plD pl] = .ok (.int (pl.map fun q => (q.1.cnt : Int)).sum, [plD pl]) := by
  obtain ⟨mk, hmk⟩ := r10 (n + 1)
  rw [hmk]
  have hl := hp.2
  simp [runF_mk, plD]
  rw [compL_map pcD (fun q => D.int (q.1.cnt : Int))]
  · simp [sumD_mapf (fun q : Fm × Vl => (q.1.cnt : Int))]
  · intro q hq
    obtain ⟨fd, h1, e⟩ := atoms_of n (hp.1 q hq).1
    simp [pcD, e, h1]
  · simp [lim]; omega
end K60
end

section
set_option Elab.async false
set_option linter.all false
set_option maxRecDepth 100000
set_option maxHeartbeats 1000000
namespace K60
open PySem L2 PV
/-! ### a plan's text is not too great -/
def SB (n : Nat) (d : D) : Prop := d.toP.showable = true ∧ d.toP.shown.length ≤ n
theorem SB.up {n m : Nat} {d : D} (h : SB n d) (hm : n ≤ m) : SB m d := ⟨h.1, Nat.le_trans h.2 hm⟩
theorem sb_int {i : Int} (h0 : -999999 ≤ i) (h1 : i ≤ 999999) : SB 7 (.int i) := by
  have hn : i.natAbs < 10 ^ 6 := by omega
  constructor
  · simp only [D.toP, PyData.showable, decide_eq_true_eq]
    by_cases hz : i.natAbs = 0
    · rw [hz]; decide
    · exact Nat.lt_trans ((Nat.log2_lt hz).mpr (Nat.lt_of_lt_of_le hn (by decide : 10 ^ 6 ≤ 2 ^ 20))) (by decide)
  · simp only [D.toP, PyData.shown]
    rw [ofString_length]
    exact int_text_length_le10 (by decide) hn
theorem toPs_len : ∀ ds : List D, (D.toPs ds).length = ds.length
  | [] => rfl
  | d :: r => by simp only [D.toPs, List.length_cons, toPs_len r]
theorem sb_all {n : Nat} : ∀ {ds : List D}, (∀ d ∈ ds, SB n d) → PyData.showableAll (D.toPs ds) = true ∧ piled (PyData.shownAll (D.toPs ds)) ≤ ds.length * (n + 2)
  | [], _ => ⟨by simp only [D.toPs, PyData.showableAll], by simp [D.toPs, PyData.shownAll, piled]⟩
  | d :: r, h => by
    obtain ⟨a, b⟩ := sb_all (ds := r) fun x hx => h x (by simp [hx])
    obtain ⟨c, e⟩ := h d (by simp)
    refine ⟨by simp only [D.toPs, PyData.showableAll, a, c, Bool.and_self], ?_⟩
    simp only [D.toPs, PyData.shownAll, List.length_cons]
    rw [piled_cons, Nat.succ_mul]
    omega
theorem sb_tup {n k m : Nat} {ds : List D} (h : ∀ d ∈ ds, SB n d) (hk : ds.length ≤ k) (hm : k * (n + 2) + 3 ≤ m) : SB m (.tup ds) := by
  obtain ⟨a, b⟩ := sb_all h
  refine ⟨by simp only [D.toP, PyData.showable, a], ?_⟩
  simp only [D.toP, PyData.shown, tupleText]
  rw [strLen_append, strLen_append]
  have e1 : ((("(" : String) : Str)).length = 1 := rfl
  have e3 : (((if (PyData.shownAll (D.toPs ds)).length == 1 then ",)" else ")" : String) : Str)).length ≤ 2 := by split <;> decide
  have b2 : ds.length * (n + 2) ≤ k * (n + 2) := Nat.mul_le_mul_right _ hk
  by_cases hn : PyData.shownAll (D.toPs ds) = []
  · have e2 : (Str.join ", " (PyData.shownAll (D.toPs ds))).length = 0 := by rw [hn]; rfl
    omega
  · have := join_length_add _ hn
    omega
theorem sb_ao (b : Bool) : SB 7 (.str (aoS b)) := by cases b <;> exact ⟨by decide +kernel, by decide +kernel⟩
theorem sb_io (b : Bool) : SB 7 (.str (ioS b)) := by cases b <;> exact ⟨by decide +kernel, by decide +kernel⟩
theorem sb_lh (b : Bool) : SB 7 (.str (lhS b)) := by cases b <;> exact ⟨by decide +kernel, by decide +kernel⟩
theorem sb_le : SB 7 (.str "le") := ⟨by decide +kernel, by decide +kernel⟩
theorem sb_and : SB 7 (.str "and") := ⟨by decide +kernel, by decide +kernel⟩
theorem sb_over : SB 7 (.str "over") := ⟨by decide +kernel, by decide +kernel⟩
theorem sb_lin {many L : Nat} {M : Int} {l : Lin} (hm : many ≤ 3) (h : l.ok many L M) (hL : L ≤ 6) (hM : M ≤ 100000) : SB 200 l.d := by
  have c0 := h.c0
  have c1 := h.c1
  have ts : SB 150 (.tup (l.ts.map tD)) := sb_tup (n := 21) (k := 6) (fun d hd => by
    obtain ⟨q, hq, rfl⟩ := List.mem_map.mp hd
    obtain ⟨a, b, c, e⟩ := h.ts q hq
    refine sb_tup (n := 7) (k := 2) (fun d hd => ?_) (by simp) (by decide)
    simp only [List.mem_cons, List.not_mem_nil, or_false] at hd
    rcases hd with rfl | rfl
    · exact sb_int (by omega) (by omega)
    · exact sb_int (by omega) (by omega)) (by rw [List.length_map]; exact Nat.le_trans h.len hL) (by decide)
  have all : SB 400 (.tup [.int l.c, .tup (l.ts.map tD)]) := sb_tup (n := 150) (k := 2) (fun d hd => by
    simp only [List.mem_cons, List.not_mem_nil, or_false] at hd
    rcases hd with rfl | rfl
    · exact (sb_int (by omega) (by omega)).up (by decide)
    · exact ts) (by simp) (by decide)
  refine ⟨all.1, ?_⟩
  -- told sharper: both parts by themselves
  have e : (Lin.d l).toP.shown = tupleText [(D.int l.c).toP.shown, (D.tup (l.ts.map tD)).toP.shown] := by
    simp only [Lin.d, D.toP, D.toPs, PyData.shown, PyData.shownAll]
  rw [e, tupleText, strLen_append, strLen_append]
  have e1 : ((("(" : String) : Str)).length = 1 := rfl
  have e3 : (((if ([(D.int l.c).toP.shown, (D.tup (l.ts.map tD)).toP.shown] : List Str).length == 1 then ",)" else ")" : String) : Str)).length ≤ 2 := by split <;> decide
  have j := join_length_add [(D.int l.c).toP.shown, (D.tup (l.ts.map tD)).toP.shown] (by simp)
  have i := (sb_int (i := l.c) (by omega) (by omega)).2
  have t := ts.2
  simp only [piled_cons, piled_nil] at j
  omega
def bf : Nat → Nat
  | 0 => 1000
  | h + 1 => 2 * (2 * (bf h + 2) + 3 + 2) + 3
theorem bf_ge : ∀ h, 1000 ≤ bf h
  | 0 => by decide
  | h + 1 => by have := bf_ge h; simp only [bf]; omega
theorem sb_fm {many : Nat} (hm : many ≤ 3) : ∀ {h : Nat} {f : Fm}, FF many h f → SB (bf h) f.d
  | h + 1, _, .le (l := l) hl => sb_tup (n := 200) (k := 2) (fun d hd => by
      simp only [List.mem_cons, List.not_mem_nil, or_false] at hd
      rcases hd with rfl | rfl
      · exact sb_le.up (by decide)
      · exact sb_lin hm hl (by decide) (by decide)) (by simp) (by have := bf_ge (h + 1); omega)
  | h + 1, _, .div (b := b) (k := k) (l := l) k0 k1 hl => sb_tup (n := 200) (k := 3) (fun d hd => by
      simp only [List.mem_cons, List.not_mem_nil, or_false] at hd
      rcases hd with rfl | rfl | rfl
      · exact (sb_io b).up (by decide)
      · exact (sb_int (by omega) (by omega)).up (by decide)
      · exact sb_lin hm hl (by decide) (by decide)) (by simp) (by have := bf_ge (h + 1); omega)
  | h + 1, _, .two (b := b) (f := f) (g := g) hf hg => by
    have i : SB (2 * (bf h + 2) + 3) (.tup [f.d, g.d]) := sb_tup (n := bf h) (k := 2) (fun d hd => by
      simp only [List.mem_cons, List.not_mem_nil, or_false] at hd
      rcases hd with rfl | rfl
      · exact sb_fm hm hf
      · exact sb_fm hm hg) (by simp) (Nat.le_refl _)
    refine sb_tup (n := 2 * (bf h + 2) + 3) (k := 2) (fun d hd => ?_) (by simp) (by simp only [bf]; omega)
    simp only [List.mem_cons, List.not_mem_nil, or_false] at hd
    rcases hd with rfl | rfl
    · exact (sb_ao b).up (by have := bf_ge h; omega)
    · exact i
  | h + 1, _, .yes => sb_tup (n := 200) (k := 2) (fun d hd => by
      simp only [List.mem_cons, List.not_mem_nil, or_false] at hd
      rcases hd with rfl | rfl
      · exact sb_and.up (by decide)
      · exact sb_tup (n := 7) (k := 0) (by simp) (by simp) (by decide)) (by simp) (by have := bf_ge (h + 1); omega)
theorem sb_vl {many : Nat} (hm : many ≤ 3) {v : Vl} (h : VV many v) : SB 10000 v.d := by
  cases h with
  | @over l k hl k0 k1 =>
    refine sb_tup (n := 200) (k := 3) (fun d hd => ?_) (by simp) (by decide)
    simp only [List.mem_cons, List.not_mem_nil, or_false] at hd
    rcases hd with rfl | rfl | rfl
    · exact sb_over.up (by decide)
    · exact sb_lin hm hl (by decide) (by decide)
    · exact (sb_int (by omega) (by omega)).up (by decide)
  | @fence b ls r p k hl hl2 r0 r1 p0 p1 k0 k1 =>
    have i : SB 1000 (.tup (ls.map Lin.d)) := sb_tup (n := 200) (k := 3) (fun d hd => by
      obtain ⟨y, hy, rfl⟩ := List.mem_map.mp hd
      exact sb_lin hm (hl y hy) (by decide) (by decide)) (by rw [List.length_map]; exact hl2) (by decide)
    refine sb_tup (n := 1000) (k := 5) (fun d hd => ?_) (by simp) (by decide)
    simp only [List.mem_cons, List.not_mem_nil, or_false] at hd
    rcases hd with rfl | rfl | rfl | rfl | rfl
    · exact (sb_lh b).up (by decide)
    · exact i
    · exact (sb_int (by omega) (by omega)).up (by decide)
    · exact (sb_int (by omega) (by omega)).up (by decide)
    · exact (sb_int (by omega) (by omega)).up (by decide)
theorem vl_okd {many : Nat} {v : Vl} (h : VV many v) : D.okd 58 v.d = true := by
  cases h with
  | @over l k hl k0 k1 =>
    have := lin_okd 54 l
    have s : PyData.strOk (Str.ofString "over") = true := by decide +kernel
    simp [Vl.d, this, s]
  | @fence b ls r p k hl hl2 r0 r1 p0 p1 k0 k1 =>
    have := lins_okd 53 ls
    simp [Vl.d, this, strOk_lh]
theorem plan_repr {many : Nat} (hm : many ≤ 3) {pl : List (Fm × Vl)} (hp : PL many pl) : ∃ s : Str, reprD (plD pl) = some (.str s) := by
  have sb : SB 600000 (plD pl) := sb_tup (n := 140000) (k := 4) (fun d hd => by
    obtain ⟨q, hq, rfl⟩ := List.mem_map.mp hd
    obtain ⟨hf, hv⟩ := hp.1 q hq
    refine sb_tup (n := 65000) (k := 2) (fun d hd => ?_) (by simp) (by decide)
    simp only [List.mem_cons, List.not_mem_nil, or_false] at hd
    rcases hd with rfl | rfl
    · exact (sb_fm hm hf).up (by decide)
    · exact (sb_vl hm hv).up (by decide)) (by rw [List.length_map]; exact hp.2) (by decide)
  have ok : D.okd 60 (plD pl) = true := by
    simp only [plD, okd_tup]
    refine okds_all fun d hd => ?_
    obtain ⟨q, hq, rfl⟩ := List.mem_map.mp hd
    obtain ⟨hf, hv⟩ := hp.1 q hq
    have a := fm_okd hf 50
    have b := vl_okd hv
    simp [pcD, a, b]
  refine ⟨(plD pl).toP.shown, ?_⟩
  unfold reprD
  have h2 := sb.2
  rw [if_pos]
  simp only [ok, sb.1, Bool.and_true, Bool.and_eq_true, decide_eq_true_eq]
  exact ⟨rfl, by unfold lim; omega⟩
end K60
end

section
set_option Elab.async false
set_option linter.all false
set_option maxRecDepth 100000
set_option maxHeartbeats 1000000
namespace K60
open PySem L2 PV
theorem absI_eq (i : Int) : absI i = (i.natAbs : Int) := by unfold absI; split <;> omega
theorem absI_mul (a b : Int) : absI (a * b) = absI a * absI b := by rw [absI_eq, absI_eq, absI_eq, Int.natAbs_mul, Int.natCast_mul]
theorem absI_add (a b : Int) : absI (a + b) ≤ absI a + absI b := by unfold absI; split <;> split <;> split <;> omega
theorem ts_reach {x : Int → Int} {X : Int} : ∀ (ts : List (Int × Int)), (∀ q ∈ ts, absI (x q.1) ≤ X) → absI (ts.map fun q => q.2 * x q.1).sum ≤ (ts.map fun q => absI q.2).sum * X
  | [], _ => by simp [absI]
  | q :: r, h => by
    have ih := ts_reach r fun y hy => h y (by simp [hy])
    have a := absI_add (q.2 * x q.1) (r.map fun q => q.2 * x q.1).sum
    have b := Int.mul_le_mul_of_nonneg_left (h q (by simp)) (absI_nn q.2)
    simp only [List.map_cons, List.sum_cons]
    rw [absI_mul] at a
    rw [Int.add_mul]
    omega
theorem lin_reach {x : Int → Int} {X : Int} {many L : Nat} {M : Int} {l : Lin} (h : l.ok many L M) (hx : ∀ j : Int, 0 ≤ j → j < many → absI (x j) ≤ X) : absI (l.at x) ≤ lrF l * X + absI l.c := by
  have a := ts_reach (X := X) l.ts fun q hq => hx q.1 (h.ts q hq).1 (h.ts q hq).2.1
  have b := absI_add l.c (l.ts.map fun q => q.2 * x q.1).sum
  unfold Lin.at lrF
  omega
theorem sum_bd {B : Int} : ∀ (ts : List (Int × Int)), (∀ q ∈ ts, absI q.2 ≤ B) → 0 ≤ (ts.map fun q => absI q.2).sum ∧ (ts.map fun q => absI q.2).sum ≤ ts.length * B
  | [], _ => by simp
  | q :: r, h => by
    obtain ⟨a, b⟩ := sum_bd r fun y hy => h y (by simp [hy])
    have c := h q (by simp)
    have d := absI_nn q.2
    simp only [List.map_cons, List.sum_cons, List.length_cons, Int.natCast_add, Int.add_mul]
    refine ⟨by omega, by simp; omega⟩
theorem lrF_bd {many : Nat} {l : Lin} (h : l.ok many 3 20) : 0 ≤ lrF l ∧ lrF l ≤ 60 := by
  obtain ⟨a, b⟩ := sum_bd (B := 20) l.ts fun q hq => by obtain ⟨_, _, c, d⟩ := h.ts q hq; unfold absI; split <;> omega
  refine ⟨a, ?_⟩
  have hl := h.len
  have : l.ts.length = 0 ∨ l.ts.length = 1 ∨ l.ts.length = 2 ∨ l.ts.length = 3 := by omega
  unfold lrF
  rcases this with e | e | e | e <;> rw [e] at b <;> omega
theorem c_bd {many : Nat} {l : Lin} (h : l.ok many 3 20) : 0 ≤ absI l.c ∧ absI l.c ≤ 20 := by
  have := h.c0; have := h.c1
  unfold absI; split <;> omega
theorem maxI_ge : ∀ (l : List Int) (a : Int), a ≤ maxI a l ∧ ∀ b ∈ l, b ≤ maxI a l
  | [], a => ⟨Int.le_refl _, by simp⟩
  | b :: r, a => by
    unfold maxI
    by_cases h : b > a
    · rw [if_pos h]
      obtain ⟨p, q⟩ := maxI_ge r b
      refine ⟨by omega, fun y hy => ?_⟩
      rcases List.mem_cons.mp hy with rfl | hy
      · exact p
      · exact q y hy
    · rw [if_neg h]
      obtain ⟨p, q⟩ := maxI_ge r a
      refine ⟨p, fun y hy => ?_⟩
      rcases List.mem_cons.mp hy with rfl | hy
      · omega
      · exact q y hy
theorem maxI_mem : ∀ (l : List Int) (a : Int), maxI a l = a ∨ maxI a l ∈ l
  | [], a => .inl rfl
  | b :: r, a => by
    unfold maxI
    by_cases h : b > a
    · rw [if_pos h]
      rcases maxI_mem r b with e | e
      · exact .inr (by rw [e]; simp)
      · exact .inr (by simp [e])
    · rw [if_neg h]
      rcases maxI_mem r a with e | e
      · exact .inl e
      · exact .inr (by simp [e])
theorem minI_mem : ∀ (l : List Int) (a : Int), minI a l = a ∨ minI a l ∈ l
  | [], a => .inl rfl
  | b :: r, a => by
    unfold minI
    by_cases h : b < a
    · rw [if_pos h]
      rcases minI_mem r b with e | e
      · exact .inr (by rw [e]; simp)
      · exact .inr (by simp [e])
    · rw [if_neg h]
      rcases minI_mem r a with e | e
      · exact .inl e
      · exact .inr (by simp [e])
theorem maxI_le {B : Int} {l : List Int} {a : Int} (h : a ≤ B) (g : ∀ b ∈ l, b ≤ B) : maxI a l ≤ B := by
  rcases maxI_mem l a with e | e
  · rw [e]; exact h
  · exact g _ e
theorem vr_bd {many : Nat} {v : Vl} (h : VV many v) : 0 ≤ (vr v).1 ∧ (vr v).1 ≤ 60 ∧ 0 ≤ (vr v).2 ∧ (vr v).2 ≤ 32 := by
  cases h with
  | @over l k hl k0 k1 =>
    have a := lrF_bd hl
    have b := c_bd hl
    simp only [vr]; omega
  | @fence b ls r p k hl hl2 r0 r1 p0 p1 k0 k1 =>
    cases ls with
    | nil => simp only [vr]; omega
    | cons l ls =>
      have a := lrF_bd (hl l (by simp))
      have b := c_bd (hl l (by simp))
      have m1 := (maxI_ge (ls.map lrF) (lrF l)).1
      have m2 := (maxI_ge (ls.map fun l => absI l.c) (absI l.c)).1
      have n1 : maxI (lrF l) (ls.map lrF) ≤ 60 := maxI_le a.2 fun b hb => by
        obtain ⟨y, hy, rfl⟩ := List.mem_map.mp hb
        exact (lrF_bd (hl y (by simp [hy]))).2
      have n2 : maxI (absI l.c) (ls.map fun l => absI l.c) ≤ 20 := maxI_le b.2 fun b hb => by
        obtain ⟨y, hy, rfl⟩ := List.mem_map.mp hb
        exact (c_bd (hl y (by simp [hy]))).2
      simp only [vr]; omega
theorem dv_bd {a k i : Int} {B : Int} (k0 : 1 ≤ k) (k1 : k ≤ 3) (h : dvD a k = .int i) (hb : absI a ≤ B) : absI i ≤ B := by
  unfold dvD at h
  split at h
  · simp only [D.int.injEq] at h
    have hk : k = 1 ∨ k = 2 ∨ k = 3 := by omega
    rcases hk with rfl | rfl | rfl <;> (subst h; unfold absI at hb ⊢; split at hb <;> split <;> omega)
  · cases h
theorem dv_or (a k : Int) : dvD a k = .non ∨ ∃ i, dvD a k = .int i := by
  unfold dvD; split
  · exact .inr ⟨_, rfl⟩
  · exact .inl rfl
theorem v_or (x : Int → Int) : ∀ v : Vl, v.at x = .non ∨ ∃ i, v.at x = .int i
  | .over l k => dv_or _ _
  | .fence b [] r p k => dv_or _ _
  | .fence true (l :: ls) r p k => dv_or _ _
  | .fence false (l :: ls) r p k => dv_or _ _
theorem v_reach {x : Int → Int} {X : Int} {many : Nat} {v : Vl} (h : VV many v) (hX : 0 ≤ X) (hx : ∀ j : Int, 0 ≤ j → j < many → absI (x j) ≤ X) {i : Int} (hi : v.at x = .int i) : absI i ≤ (vr v).1 * X + (vr v).2 := by
  cases h with
  | @over l k hl k0 k1 => exact dv_bd k0 k1 hi (lin_reach hl hx)
  | @fence b ls r p k hl hl2 r0 r1 p0 p1 k0 k1 =>
    cases ls with
    | nil =>
      have : absI r ≤ r := by unfold absI; split <;> omega
      have q := dv_bd k0 k1 hi this
      simp only [vr]; omega
    | cons l ls =>
      have one : ∀ y ∈ l :: ls, absI (y.at x) ≤ maxI (lrF l) (ls.map lrF) * X + maxI (absI l.c) (ls.map fun l => absI l.c) := fun y hy => by
        have a := lin_reach (hl y hy) hx
        have m1 : lrF y ≤ maxI (lrF l) (ls.map lrF) := by
          rcases List.mem_cons.mp hy with rfl | hy
          · exact (maxI_ge _ _).1
          · exact (maxI_ge _ _).2 _ (List.mem_map.mpr ⟨y, hy, rfl⟩)
        have m2 : absI y.c ≤ maxI (absI l.c) (ls.map fun l => absI l.c) := by
          rcases List.mem_cons.mp hy with rfl | hy
          · exact (maxI_ge _ _).1
          · exact (maxI_ge _ _).2 _ (List.mem_map.mpr ⟨y, hy, rfl⟩)
        have m3 := Int.mul_le_mul_of_nonneg_right m1 hX
        omega
      have hp : 0 < p := by omega
      simp only [vr]
      cases b with
      | false =>
        have mm : absI (maxI (l.at x) (ls.map (Lin.at x))) ≤ maxI (lrF l) (ls.map lrF) * X + maxI (absI l.c) (ls.map fun l => absI l.c) := by
          rcases maxI_mem (ls.map (Lin.at x)) (l.at x) with e | e
          · rw [e]; exact one l (by simp)
          · obtain ⟨y, hy, e2⟩ := List.mem_map.mp e
            rw [← e2]; exact one y (by simp [hy])
        have q0 := Int.emod_nonneg (r - (maxI (l.at x) (ls.map (Lin.at x)) + 1)) (b := p) (by omega)
        have q1 := Int.emod_lt_of_pos (r - (maxI (l.at x) (ls.map (Lin.at x)) + 1)) hp
        refine dv_bd k0 k1 hi ?_
        unfold absI at mm ⊢
        split at mm <;> split <;> omega
      | true =>
        have mm : absI (minI (l.at x) (ls.map (Lin.at x))) ≤ maxI (lrF l) (ls.map lrF) * X + maxI (absI l.c) (ls.map fun l => absI l.c) := by
          rcases minI_mem (ls.map (Lin.at x)) (l.at x) with e | e
          · rw [e]; exact one l (by simp)
          · obtain ⟨y, hy, e2⟩ := List.mem_map.mp e
            rw [← e2]; exact one y (by simp [hy])
        have q0 := Int.emod_nonneg (minI (l.at x) (ls.map (Lin.at x)) - 1 - r) (b := p) (by omega)
        have q1 := Int.emod_lt_of_pos (minI (l.at x) (ls.map (Lin.at x)) - 1 - r) hp
        refine dv_bd k0 k1 hi ?_
        unfold absI at mm ⊢
        split at mm <;> split <;> omega
theorem pr_ge : ∀ {pl : List (Fm × Vl)} {q : Fm × Vl}, q ∈ pl → (vr q.2).1 ≤ (pr pl).1 ∧ (vr q.2).2 ≤ (pr pl).2
  | p :: r, q, h => by
    simp only [pr]
    rcases List.mem_cons.mp h with rfl | h
    · exact ⟨(maxI_ge _ _).1, (maxI_ge _ _).1⟩
    · exact ⟨(maxI_ge _ _).2 _ (List.mem_map.mpr ⟨q, h, rfl⟩), (maxI_ge _ _).2 _ (List.mem_map.mpr ⟨q, h, rfl⟩)⟩
theorem pr_bd {many : Nat} {pl : List (Fm × Vl)} (hp : PL many pl) : 0 ≤ (pr pl).1 ∧ (pr pl).1 ≤ 60 ∧ 0 ≤ (pr pl).2 ∧ (pr pl).2 ≤ 32 := by
  cases pl with
  | nil => simp [pr]
  | cons q r =>
    have a := vr_bd (hp.1 q (by simp)).2
    have m1 := (maxI_ge (r.map fun q => (vr q.2).1) (vr q.2).1).1
    have m2 := (maxI_ge (r.map fun q => (vr q.2).2) (vr q.2).2).1
    have n1 : maxI (vr q.2).1 (r.map fun q => (vr q.2).1) ≤ 60 := maxI_le a.2.1 fun b hb => by
      obtain ⟨y, hy, rfl⟩ := List.mem_map.mp hb
      exact (vr_bd (hp.1 y (by simp [hy])).2).2.1
    have n2 : maxI (vr q.2).2 (r.map fun q => (vr q.2).2) ≤ 32 := maxI_le a.2.2.2 fun b hb => by
      obtain ⟨y, hy, rfl⟩ := List.mem_map.mp hb
      exact (vr_bd (hp.1 y (by simp [hy])).2).2.2.2
    simp only [pr]; omega
theorem told_ok {x : Int → Int} {X : Int} {many : Nat} {pl : List (Fm × Vl)} (hp : PL many pl) (h : ∃ q ∈ pl, q.1.at x = true) (hX : 0 ≤ X) (hx : ∀ j : Int, 0 ≤ j → j < many → absI (x j) ≤ X) : told x pl = .non ∨ ∃ i, told x pl = .int i ∧ absI i ≤ (pr pl).1 * X + (pr pl).2 := by
  obtain ⟨q, hq, _, e, _⟩ := pidx_get pl h
  rw [e]
  rcases v_or x q.2 with z | ⟨i, z⟩
  · exact .inl z
  · refine .inr ⟨i, z, ?_⟩
    have a := v_reach (hp.1 q hq).2 hX hx z
    obtain ⟨b, c⟩ := pr_ge hq
    have d := Int.mul_le_mul_of_nonneg_right b hX
    omega
/-! ### defences -/
def stepR (f : Int) (pl : List (Fm × Vl)) : Int := if (pr pl).1 * f + (pr pl).2 > f then (pr pl).1 * f + (pr pl).2 else f
def pxD : D := .tup [.str "prenex", .int 0, .tup [.str "some", .str "all", .str "some"], .tup [.str "and", .tup []]]
def dfD (a b : List (Fm × Vl)) : D := .tup [.str "defence", .str "yes", .tup [plD a, plD b]]
theorem defence_reach (n : Nat) {m1 m2 : Nat} {a b : List (Fm × Vl)} (ha : PL m1 a) (hb : PL m2 b) (na : a ≠ []) (nb : b ≠ []) (most : Int) : Z (n + 4) 12 [pxD, dfD a b, .int most] = .ok (.int (stepR (stepR most a) b), [pxD, dfD a b, .int most]) := by
  obtain ⟨mk, hmk⟩ := r12 (n + 3)
  rw [hmk]
  have ea := plan_reach n ha na
  have eb := plan_reach n hb nb
  have ba := pr_bd ha
  have bb := pr_bd hb
  have ma : ∀ i, mulOk (pr a).1 i = true := fun i => mulOk_l (by omega) (by omega)
  have mb : ∀ i, mulOk (pr b).1 i = true := fun i => mulOk_l (by omega) (by omega)
  simp only [reD] at ea eb
  have l0 : 2 ≤ lim := by decide
  have l1 : 1 ≤ lim := by decide
  simp [runF_mk, pxD, dfD, ofString_inj, forL, L12_0, ea, eb, ma, mb, stepR, l0, l1]
end K60
end

section
set_option Elab.async false
set_option linter.all false
set_option maxRecDepth 100000
set_option maxHeartbeats 1000000
namespace K60
open PySem L2 PV
def xs (ns : List Int) (j : Int) : Int := ns.getD j.toNat 0
theorem val_lst (ns : List Int) : ValD (.lst (ns.map .int)) (xs ns) ns.length := fun v h0 h1 => by
  have h2 : v.toNat < ns.length := by omega
  simp [h0, h1, xs, h2]
theorem val_dct (ns : List Int) (h1 : 1 ≤ ns.length) (h3 : ns.length ≤ 3) : ∃ dd, dictED (.lst (ns.map .int)) = some dd ∧ ValD dd (xs ns) ns.length := by
  match ns, h1, h3 with
  | [a], _, _ =>
    refine ⟨_, rfl, fun v h0 h1 => ?_⟩
    have hv : v = 0 := by simp at h1; omega
    subst hv
    simp [rangeD, PV.putK, xs]
  | [a, b], _, _ =>
    refine ⟨_, rfl, fun v h0 h1 => ?_⟩
    have hv : v = 0 ∨ v = 1 := by simp at h1; omega
    rcases hv with rfl | rfl <;> simp [rangeD, PV.putK, xs]
  | [a, b, c], _, _ =>
    refine ⟨_, rfl, fun v h0 h1 => ?_⟩
    have hv : v = 0 ∨ v = 1 ∨ v = 2 := by simp at h1; omega
    rcases hv with rfl | rfl | rfl <;> simp [rangeD, PV.putK, xs]
theorem isv (n : Nat) {d : D} (h : d = .non ∨ ∃ i, d = .int i) : Z (n + 1) 16 [d, d] = .ok (.bl true, [d, d]) := by
  rcases h with rfl | ⟨i, rfl⟩
  · exact is_non n
  · exact is_int i n
theorem is_re (n : Nat) (p : Int × Int) : Z (n + 2) 16 [reD p, reD p] = .ok (.bl true, [reD p, reD p]) :=
  is_tup _ (n + 1) (by simp) fun d hd => by
    simp only [List.mem_cons, List.not_mem_nil, or_false] at hd
    rcases hd with rfl | rfl <;> exact is_int _ n
theorem turn_plan {N : Nat} {mk : CF} {ns : List Int} (h1 : 1 ≤ ns.length) (h3 : ns.length ≤ 3) {q : Fm × Vl} (hv : VV ns.length q.2) (w : W) (hw : w = .frz ∨ w = .own .frz) (a0 a1 a2 a3 a4 a5 a6 a7 a8 a9 a11 a12 a13 a14 a15 a16 a17 a18 a19 a20 a21 a22 a23 a24 a25 : Option (W × D)) :
    trn (Z (N + 20)) mk (.tgTup (.cons (.tgName 19) (.cons (.tgName 20) .nil))) l36_1 (pcD q) [a0, a1, a2, a3, a4, a5, a6, a7, a8, a9, some (w, .lst (ns.map .int)), a11, a12, a13, a14, a15, a16, a17, a18, a19, a20, a21, a22, a23, a24, a25] =
      .nx [a0, a1, a2, a3, a4, a5, a6, a7, a8, a9, some (.frz, .lst (ns.map .int)), a11, a12, a13, a14, a15, a16, a17, a18, some (.frz, q.1.d), some (.frz, q.2.d), some (.frz, q.2.at (xs ns)), a22, a23, a24, a25] := by
  have e1 := value (N + 19) (val_lst ns) hv
  have e2 := value_at (N + 18) (val_lst ns) hv
  obtain ⟨dd, hd, hdv⟩ := val_dct ns h1 h3
  have e3 := value_at (N + 18) hdv hv
  have e4 := is_lst [q.2.at (xs ns), q.2.at (xs ns)] (N + 19) (by simp) fun d hd => by
    simp only [List.mem_cons, List.not_mem_nil, or_false] at hd
    rcases hd with rfl | rfl <;> exact isv (N + 18) (v_or _ _)
  have l2 : 2 ≤ lim := by decide
  rcases hw with rfl | rfl <;> simp [pcD, L36_1, e1, e2, hd, e3, e4, l2]
theorem plan_loop {N : Nat} {mk : CF} {ns : List Int} (h1 : 1 ≤ ns.length) (h3 : ns.length ≤ 3) (a0 a1 a2 a3 a4 a5 a6 a7 a8 a9 a11 a12 a13 a14 a15 a16 a17 a18 a22 a23 a24 a25 : Option (W × D)) : ∀ (pl : List (Fm × Vl)), (∀ q ∈ pl, VV ns.length q.2) → ∀ (w : W) (_ : w = .frz ∨ w = .own .frz) (a19 a20 a21 : Option (W × D)), ∃ (w' : W) (b19 b20 b21 : Option (W × D)), (w' = .frz ∨ w' = .own .frz) ∧
    forL (trn (Z (N + 20)) mk (.tgTup (.cons (.tgName 19) (.cons (.tgName 20) .nil))) l36_1) (pl.map pcD) [a0, a1, a2, a3, a4, a5, a6, a7, a8, a9, some (w, .lst (ns.map .int)), a11, a12, a13, a14, a15, a16, a17, a18, a19, a20, a21, a22, a23, a24, a25] =
      .nx [a0, a1, a2, a3, a4, a5, a6, a7, a8, a9, some (w', .lst (ns.map .int)), a11, a12, a13, a14, a15, a16, a17, a18, b19, b20, b21, a22, a23, a24, a25]
  | [], _, w, hw, a19, a20, a21 => ⟨w, a19, a20, a21, hw, rfl⟩
  | q :: r, hv, w, hw, a19, a20, a21 => by
    have e := turn_plan (N := N) (mk := mk) h1 h3 (hv q (by simp)) w hw a0 a1 a2 a3 a4 a5 a6 a7 a8 a9 a11 a12 a13 a14 a15 a16 a17 a18 a19 a20 a21 a22 a23 a24 a25
    obtain ⟨w', b19, b20, b21, hw', e'⟩ := plan_loop (N := N) (mk := mk) h1 h3 a0 a1 a2 a3 a4 a5 a6 a7 a8 a9 a11 a12 a13 a14 a15 a16 a17 a18 a22 a23 a24 a25 r (fun y hy => hv y (by simp [hy])) .frz (.inl rfl) (some (.frz, q.1.d)) (some (.frz, q.2.d)) (some (.frz, q.2.at (xs ns)))
    exact ⟨w', b19, b20, b21, hw', by simp only [List.map_cons, forL, e, turn_nx]; exact e'⟩
/-- the places of the pieces that hold -/
theorem place_loop {N : Nat} {mk : CF} {ns : List Int} (a0 a1 a2 a3 a4 a5 a6 a7 a8 a9 a11 a12 a13 a14 a15 a16 a17 a18 a19 a20 a21 a22 a25 : Option (W × D)) : ∀ (pl : List (Fm × Vl)), (∀ q ∈ pl, FF ns.length 3 q.1) → ∀ (w : W) (_ : w = .frz ∨ w = .own .frz) (k : Nat) (acc : List D), acc.length + pl.length ≤ 1000 → ∃ (w' : W), (w' = .frz ∨ w' = .own .frz) ∧
    compL (compT (evE (Z (N + 20)) mk (.call 26 .frz (.cons (.prim .item (.cons (.brw 24 []) (.cons (.lit (.int 0)) .nil))) (.cons (.var 10) .nil)))) (evE (Z (N + 20)) mk (.var 23)) (.tgTup (.cons (.tgName 23) (.cons (.tgName 24) .nil))) [23, 24]) (enumFrom k (pl.map pcD)) [a0, a1, a2, a3, a4, a5, a6, a7, a8, a9, some (w, .lst (ns.map .int)), a11, a12, a13, a14, a15, a16, a17, a18, a19, a20, a21, a22, none, none, a25] acc =
      .ok (acc ++ (places (xs ns) k pl).map .int, [a0, a1, a2, a3, a4, a5, a6, a7, a8, a9, some (w', .lst (ns.map .int)), a11, a12, a13, a14, a15, a16, a17, a18, a19, a20, a21, a22, none, none, a25])
  | [], _, w, hw, k, acc, _ => ⟨w, hw, by simp [enumFrom, compL, places]⟩
  | q :: r, hf, w, hw, k, acc, hl => by
    simp only [List.length_cons] at hl
    have e := is_so (val_lst ns) (hf q (by simp)) (N + 17)
    have hlim : acc.length < lim := by simp [lim]; omega
    by_cases t : q.1.at (xs ns) = true
    · obtain ⟨w', hw', e'⟩ := place_loop (N := N) (mk := mk) (ns := ns) a0 a1 a2 a3 a4 a5 a6 a7 a8 a9 a11 a12 a13 a14 a15 a16 a17 a18 a19 a20 a21 a22 a25 r (fun y hy => hf y (by simp [hy])) .frz (.inl rfl) (k + 1) (acc ++ [.int k]) (by simp; omega)
      refine ⟨w', hw', ?_⟩
      rw [t] at e
      simp only [List.map_cons, enumFrom, compL]
      rcases hw with rfl | rfl <;> (simp [pcD, e, hlim] at e' ⊢; rw [e']; simp [places, t])
    · obtain ⟨w', hw', e'⟩ := place_loop (N := N) (mk := mk) (ns := ns) a0 a1 a2 a3 a4 a5 a6 a7 a8 a9 a11 a12 a13 a14 a15 a16 a17 a18 a19 a20 a21 a22 a25 r (fun y hy => hf y (by simp [hy])) .frz (.inl rfl) (k + 1) acc (by omega)
      refine ⟨w', hw', ?_⟩
      have t' : q.1.at (xs ns) = false := by simpa using t
      rw [t'] at e
      simp only [List.map_cons, enumFrom, compL]
      rcases hw with rfl | rfl <;> (simp [pcD, e, hlim] at e' ⊢; rw [e']; simp [places, t'])
end K60
end

section
set_option Elab.async false
set_option linter.all false
set_option maxRecDepth 100000
set_option maxHeartbeats 2000000
namespace K60
open PySem L2 PV
theorem pow12 : powD (.int 10) (.int 12) = some (.int 1000000000000) := by simp [powD]
theorem pow20 : powD (.int 10) (.int 20) = some (.int 100000000000000000000) := by simp [powD]
theorem nums {N : Nat} {mk : CF} (many : Nat) (hm : many ≤ 3) (p : Pot) (a2 a3 a4 a5 a6 a7 a8 a9 a10 a11 a12 a13 a14 a15 a16 a17 a18 a19 a20 a21 a23 a24 a25 : Option (W × D)) : ∃ (ns : List Int) (p' : Pot), ns.length = many ∧
    compL (compT (evE (Z (N + 20)) mk (.lit (.bl true))) (evE (Z (N + 20)) mk (.call 15 .frz (.cons (.io 0 (.own .frz)) (.cons (.lst (.cons (.prim .sub (.cons (.call 14 .frz (.cons (.io 0 (.own .frz)) (.cons (.lit (.int 41)) .nil))) (.cons (.lit (.int 20)) .nil))) (.cons (.prim .add (.cons (.prim .pow (.cons (.lit (.int 10)) (.cons (.lit (.int 12)) .nil))) (.cons (.call 14 .frz (.cons (.io 0 (.own .frz)) (.cons (.lit (.int 99)) .nil))) .nil))) (.cons (.prim .sub (.cons (.prim .neg (.cons (.prim .pow (.cons (.lit (.int 10)) (.cons (.lit (.int 20)) .nil))) .nil)) (.cons (.call 14 .frz (.cons (.io 0 (.own .frz)) (.cons (.lit (.int 99)) .nil))) .nil))) .nil)))) .nil)))) (.tgName 22) [22]) ((List.range many).map fun k : Nat => D.int (k : Int)) [some (.own .frz, p.d), some (.frz, .int many), a2, a3, a4, a5, a6, a7, a8, a9, a10, a11, a12, a13, a14, a15, a16, a17, a18, a19, a20, a21, none, a23, a24, a25] [] =
      .ok (ns.map .int, [some (.own .frz, p'.d), some (.frz, .int many), a2, a3, a4, a5, a6, a7, a8, a9, a10, a11, a12, a13, a14, a15, a16, a17, a18, a19, a20, a21, none, a23, a24, a25]) := by
  have l3 : 3 ≤ lim := by decide
  obtain ⟨ys, p1, e1, l1, _⟩ := compL_ex (turn := compT (evE (Z (N + 20)) mk (.lit (.bl true))) (evE (Z (N + 20)) mk (.call 15 .frz (.cons (.io 0 (.own .frz)) (.cons (.lst (.cons (.prim .sub (.cons (.call 14 .frz (.cons (.io 0 (.own .frz)) (.cons (.lit (.int 41)) .nil))) (.cons (.lit (.int 20)) .nil))) (.cons (.prim .add (.cons (.prim .pow (.cons (.lit (.int 10)) (.cons (.lit (.int 12)) .nil))) (.cons (.call 14 .frz (.cons (.io 0 (.own .frz)) (.cons (.lit (.int 99)) .nil))) .nil))) (.cons (.prim .sub (.cons (.prim .neg (.cons (.prim .pow (.cons (.lit (.int 10)) (.cons (.lit (.int 20)) .nil))) .nil)) (.cons (.call 14 .frz (.cons (.io 0 (.own .frz)) (.cons (.lit (.int 99)) .nil))) .nil))) .nil)))) .nil)))) (.tgName 22) [22])
    (fun k : Nat => D.int k) D.int (fun p : Pot => [some (.own .frz, p.d), some (.frz, .int many), a2, a3, a4, a5, a6, a7, a8, a9, a10, a11, a12, a13, a14, a15, a16, a17, a18, a19, a20, a21, none, a23, a24, a25]) (fun x y => True) (List.range many) (fun x hx p => by
      obtain ⟨z1, p1, _, _, e1⟩ := draw p 41 (by decide) (by decide)
      obtain ⟨z2, p2, _, _, e2⟩ := draw p1 99 (by decide) (by decide)
      obtain ⟨z3, p3, _, _, e3⟩ := draw p2 99 (by decide) (by decide)
      obtain ⟨d, p4, hd, e4⟩ := pick p3 [.int (z1 - 20), .int (1000000000000 + z2), .int (-100000000000000000000 - z3)] (by simp) (by simp)
      obtain ⟨i, rfl⟩ : ∃ i : Int, d = .int i := by
        simp only [List.mem_cons, List.not_mem_nil, or_false] at hd
        rcases hd with rfl | rfl | rfl <;> exact ⟨_, rfl⟩
      exact ⟨i, p4, by simp [e1, e2, e3, e4, pow12, pow20, l3], trivial⟩) p [] (by simp [lim]; omega)
  rw [List.length_range] at l1
  exact ⟨ys, p1, l1, by simpa using e1⟩
theorem abs_loop {N : Nat} {mk : CF} (ns : List Int) (hl : ns.length ≤ 1000) (a0 a1 a2 a3 a4 a5 a6 a7 a8 a10 a11 a12 a13 a14 a15 a16 a17 a18 a19 a20 a21 a22 a23 a24 a25 : Option (W × D)) :
    compL (compT (evE (Z (N + 20)) mk (.lit (.bl true))) (evE (Z (N + 20)) mk (.prim .abs (.cons (.brw 9 []) .nil))) (.tgName 9) [9]) (ns.map .int) [a0, a1, a2, a3, a4, a5, a6, a7, a8, none, a10, a11, a12, a13, a14, a15, a16, a17, a18, a19, a20, a21, a22, a23, a24, a25] [] =
      .ok (ns.map fun i => D.int (absI i), [a0, a1, a2, a3, a4, a5, a6, a7, a8, none, a10, a11, a12, a13, a14, a15, a16, a17, a18, a19, a20, a21, a22, a23, a24, a25]) := by
  rw [compL_map D.int (fun i => D.int (absI i))]
  · simp
  · intro i hi
    simp [-absD_int, absD_I]
  · simp [lim]; omega
theorem xs_le (ns : List Int) {B : Int} (h : ∀ i ∈ ns, absI i ≤ B) : ∀ j : Int, 0 ≤ j → j < ns.length → absI (xs ns j) ≤ B := fun j h0 h1 => by
  have h2 : j.toNat < ns.length := by omega
  have : xs ns j = ns[j.toNat] := by simp [xs, h2]
  rw [this]
  exact h _ (List.getElem_mem _)
theorem body36 {N : Nat} {mk : CF} {many : Nat} (hm1 : 1 ≤ many) (hm3 : many ≤ 3) {pl : List (Fm × Vl)} (hp : PL many pl) (hy : ∃ v, (Fm.yes, v) ∈ pl) (k : Int) (p : Pot) (a3 a4 a6 a7 a8 a9 a10 a11 a12 a13 a14 a15 a16 a17 a18 a19 a20 a21 a22 a23 a24 a25 : Option (W × D)) : ∃ (p' : Pot) (b10 b11 b12 b19 b20 b21 : Option (W × D)),
    trn (Z (N + 20)) mk (.tgName 7) l36_2 (.int k) [some (.own .frz, p.d), some (.frz, .int many), some (.frz, plD pl), a3, a4, some (.frz, reD (pr pl)), a6, a7, a8, a9, a10, a11, a12, a13, a14, a15, a16, a17, a18, a19, a20, a21, a22, a23, a24, a25] =
      .nx [some (.own .frz, p'.d), some (.frz, .int many), some (.frz, plD pl), a3, a4, some (.frz, reD (pr pl)), a6, some (.frz, .int k), a8, a9, b10, b11, b12, a13, a14, a15, a16, a17, a18, b19, b20, b21, a22, a23, a24, a25] := by
  have rg : ∀ e, rng (.int (many : Int), e) = .ok ((List.range many).map fun k : Nat => D.int (k : Int), e) := fun e => by rw [rng_ok (by omega) (by omega), Int.toNat_natCast]
  obtain ⟨ns, p', hl, e1⟩ := nums (N := N) (mk := mk) many hm3 p (some (.frz, plD pl)) a3 a4 (some (.frz, reD (pr pl))) a6 (some (.frz, .int k)) a8 a9 a10 a11 a12 a13 a14 a15 a16 a17 a18 a19 a20 a21 a23 a24 a25
  have hm1' : 1 ≤ ns.length := by omega
  have hm3' : ns.length ≤ 3 := by omega
  have hp' : PL ns.length pl := by rw [hl]; exact hp
  obtain ⟨w1, b19, b20, b21, hw1, e2⟩ := plan_loop (N := N) (mk := mk) (ns := ns) hm1' hm3' (some (.own .frz, p'.d)) (some (.frz, .int many)) (some (.frz, plD pl)) a3 a4 (some (.frz, reD (pr pl))) a6 (some (.frz, .int k)) a8 a9 a11 a12 a13 a14 a15 a16 a17 a18 a22 a23 a24 a25 pl (fun q hq => (hp'.1 q hq).2) (.own .frz) (.inr rfl) a19 a20 a21
  obtain ⟨w2, hw2, e3⟩ := place_loop (N := N) (mk := mk) (ns := ns) (some (.own .frz, p'.d)) (some (.frz, .int many)) (some (.frz, plD pl)) a3 a4 (some (.frz, reD (pr pl))) a6 (some (.frz, .int k)) a8 a9 a11 a12 a13 a14 a15 a16 a17 a18 b19 b20 b21 a22 a25 pl (fun q hq => (hp'.1 q hq).1) w1 hw1 0 [] (by have := hp.2; simp; omega)
  obtain ⟨v0, hv0⟩ := hy
  have hex : ∃ q ∈ pl, q.1.at (xs ns) = true := ⟨_, hv0, rfl⟩
  obtain ⟨rest, e4⟩ := places_hd pl 0 hex
  obtain ⟨q, hq, g1, g2, g3⟩ := pidx_get pl hex
  have g1' : pl[pidx (xs ns) pl]'g3 = q := by simpa [List.getElem?_eq_getElem g3] using g1
  have e5 := value (N + 19) (val_lst ns) (hp'.1 q hq).2
  have e6 := piece_at (N + 14) (val_lst ns) hp' hex
  have e7 := told_by (N + 13) (val_lst ns) hp' hex
  have ht : told (xs ns) pl = .non ∨ ∃ i, told (xs ns) pl = .int i := by rw [g2]; exact v_or _ _
  have e8 := is_lst [.int (pidx (xs ns) pl : Int), .int (pidx (xs ns) pl : Int), told (xs ns) pl, told (xs ns) pl] (N + 19) (by simp) fun d hd => by
    simp only [List.mem_cons, List.not_mem_nil, or_false] at hd
    rcases hd with rfl | rfl | rfl | rfl
    · exact is_int _ (N + 18)
    · exact is_int _ (N + 18)
    · exact isv (N + 18) ht
    · exact isv (N + 18) ht
  obtain ⟨X, e9, hX, hx⟩ : ∃ X, maxD (.lst (ns.map fun i => D.int (absI i))) = some (.int X) ∧ 0 ≤ X ∧ ∀ j : Int, 0 ≤ j → j < ns.length → absI (xs ns j) ≤ X := by
    cases ns with
    | nil => simp at hm1'
    | cons n0 nr =>
      refine ⟨maxI (absI n0) (nr.map absI), maxD_mapf absI n0 nr, ?_, ?_⟩
      · have := (maxI_ge (nr.map absI) (absI n0)).1; have := absI_nn n0; omega
      · exact xs_le (n0 :: nr) (B := maxI (absI n0) (nr.map absI)) fun i hi => by
          rcases List.mem_cons.mp hi with rfl | hi
          · exact (maxI_ge _ _).1
          · exact (maxI_ge _ _).2 _ (List.mem_map.mpr ⟨i, hi, rfl⟩)
  have bd := pr_bd hp
  have m1 : mulOk (pr pl).1 X = true := mulOk_l (by omega) (by omega)
  have l4 : 4 ≤ lim := by decide
  have tk := told_ok hp' hex hX hx
  have e10 := abs_loop (N := N) (mk := mk) ns (by omega)
  rw [e4] at e3
  rw [g2] at e7 e8 tk
  simp only [plD] at e2 e3 e6 e7
  simp only [plD]
  refine ⟨p', some (.frz, .lst (ns.map D.int)), some (.frz, .int (pidx (xs ns) pl)), some (.frz, q.2.at (xs ns)), b19, b20, b21, ?_⟩
  rcases tk with tk | ⟨i, tk, hi⟩
  · rw [tk] at e5 e7 e8
    rcases hw1 with rfl | rfl <;> rcases hw2 with rfl | rfl <;> simp [L36_2, rg, e1, plD, e2, e3, g3, g1', pcD, e5, e6, e7, e8, l4, tk] at e1 e2 e3 ⊢
  · have hi' : ¬ ((pr pl).1 * X + (pr pl).2 < absI i) := by omega
    rw [tk] at e5 e7 e8
    simp only [reD] at e1 e2 e3 ⊢
    rcases hw1 with rfl | rfl <;> rcases hw2 with rfl | rfl <;> simp [L36_2, rg, e1, plD, e2, e3, g3, g1', pcD, e5, e6, e7, e8, l4, tk, -absD_int, absD_I, e9, e10, m1, hi'] at e1 e2 e3 ⊢
end K60
end

section
set_option Elab.async false
set_option linter.all false
set_option maxRecDepth 100000
set_option maxHeartbeats 2000000
namespace K60
open PySem L2 PV
theorem mx1 {pl : List (Fm × Vl)} (h : pl ≠ []) : maxD (.lst (pl.map fun q => D.int (vr q.2).1)) = some (.int (pr pl).1) := by
  cases pl with
  | nil => exact absurd rfl h
  | cons q r => exact maxD_mapf (fun q : Fm × Vl => (vr q.2).1) q r
theorem mx2 {pl : List (Fm × Vl)} (h : pl ≠ []) : maxD (.lst (pl.map fun q => D.int (vr q.2).2)) = some (.int (pr pl).2) := by
  cases pl with
  | nil => exact absurd rfl h
  | cons q r => exact maxD_mapf (fun q : Fm × Vl => (vr q.2).2) q r
section
variable {N : Nat} {mk : CF} {many : Nat} {pl : List (Fm × Vl)}
theorem c35 (hp : PL many pl) (a0 a1 a2 a3 a4 a5 a6 a7 a8 a9 a10 a11 a12 a13 a14 a15 a16 a17 a18 a21 a22 a23 a24 a25 : Option (W × D)) : compL (compT (evE (Z (N + 20)) mk (.lit (.bl true))) (evE (Z (N + 20)) mk (.call 35 .frz (.cons (.var 20) .nil))) (.tgTup (.cons (.tgName 19) (.cons (.tgName 20) .nil))) [19, 20]) (pl.map pcD) [a0, a1, a2, a3, a4, a5, a6, a7, a8, a9, a10, a11, a12, a13, a14, a15, a16, a17, a18, none, none, a21, a22, a23, a24, a25] [] = .ok (pl.map fun q => reD (vr q.2), [a0, a1, a2, a3, a4, a5, a6, a7, a8, a9, a10, a11, a12, a13, a14, a15, a16, a17, a18, none, none, a21, a22, a23, a24, a25]) := by
  have hl := hp.2
  rw [compL_map (pcD) (fun q : Fm × Vl => reD (vr q.2))]
  · simp
  · intro q hq
    have w := law_reach (N + 19) (hp.1 q hq).2
    simp [pcD, w]
  · simp [lim]; omega
theorem c34 (hp : PL many pl) (a0 a1 a2 a3 a4 a5 a6 a7 a8 a9 a10 a11 a12 a13 a14 a15 a16 a17 a18 a21 a22 a23 a24 a25 : Option (W × D)) : compL (compT (evE (Z (N + 20)) mk (.lit (.bl true))) (evE (Z (N + 20)) mk (.call 34 .frz (.cons (.var 19) .nil))) (.tgTup (.cons (.tgName 19) (.cons (.tgName 20) .nil))) [19, 20]) (pl.map pcD) [a0, a1, a2, a3, a4, a5, a6, a7, a8, a9, a10, a11, a12, a13, a14, a15, a16, a17, a18, none, none, a21, a22, a23, a24, a25] [] = .ok (pl.map fun q => D.int (q.1.cnt : Int), [a0, a1, a2, a3, a4, a5, a6, a7, a8, a9, a10, a11, a12, a13, a14, a15, a16, a17, a18, none, none, a21, a22, a23, a24, a25]) := by
  have hl := hp.2
  rw [compL_map (pcD) (fun q : Fm × Vl => D.int (q.1.cnt : Int))]
  · simp
  · intro q hq
    have w := law_atoms (hp.1 q hq).1 (N + 17)
    simp [pcD, w]
  · simp [lim]; omega
theorem c9_0 (hp : PL many pl) (a0 a1 a2 a3 a4 a5 a6 a7 a8 a10 a11 a12 a13 a14 a15 a16 a17 a18 a19 a20 a21 a22 a23 a24 a25 : Option (W × D)) : compL (compT (evE (Z (N + 20)) mk (.lit (.bl true))) (evE (Z (N + 20)) mk (.prim .item (.cons (.brw 9 []) (.cons (.lit (.int 0)) .nil)))) (.tgName 9) [9]) (pl.map fun q => reD (vr q.2)) [a0, a1, a2, a3, a4, a5, a6, a7, a8, none, a10, a11, a12, a13, a14, a15, a16, a17, a18, a19, a20, a21, a22, a23, a24, a25] [] = .ok (pl.map fun q => D.int (vr q.2).1, [a0, a1, a2, a3, a4, a5, a6, a7, a8, none, a10, a11, a12, a13, a14, a15, a16, a17, a18, a19, a20, a21, a22, a23, a24, a25]) := by
  have hl := hp.2
  rw [compL_map (fun q : Fm × Vl => reD (vr q.2)) (fun q : Fm × Vl => D.int (vr q.2).1)]
  · simp
  · intro q hq
    simp [reD]
  · simp [lim]; omega
theorem c9_1 (hp : PL many pl) (a0 a1 a2 a3 a4 a5 a6 a7 a8 a10 a11 a12 a13 a14 a15 a16 a17 a18 a19 a20 a21 a22 a23 a24 a25 : Option (W × D)) : compL (compT (evE (Z (N + 20)) mk (.lit (.bl true))) (evE (Z (N + 20)) mk (.prim .item (.cons (.brw 9 []) (.cons (.lit (.int 1)) .nil)))) (.tgName 9) [9]) (pl.map fun q => reD (vr q.2)) [a0, a1, a2, a3, a4, a5, a6, a7, a8, none, a10, a11, a12, a13, a14, a15, a16, a17, a18, a19, a20, a21, a22, a23, a24, a25] [] = .ok (pl.map fun q => D.int (vr q.2).2, [a0, a1, a2, a3, a4, a5, a6, a7, a8, none, a10, a11, a12, a13, a14, a15, a16, a17, a18, a19, a20, a21, a22, a23, a24, a25]) := by
  have hl := hp.2
  rw [compL_map (fun q : Fm × Vl => reD (vr q.2)) (fun q : Fm × Vl => D.int (vr q.2).2)]
  · simp
  · intro q hq
    simp [reD]
  · simp [lim]; omega
theorem c25_0 (hp : PL many pl) (a0 a1 a2 a3 a4 a5 a6 a7 a8 a9 a10 a11 a12 a13 a14 a15 a16 a17 a18 a19 a20 a21 a22 a23 a24 : Option (W × D)) : compL (compT (evE (Z (N + 20)) mk (.lit (.bl true))) (evE (Z (N + 20)) mk (.prim .item (.cons (.brw 25 []) (.cons (.lit (.int 0)) .nil)))) (.tgName 25) [25]) (pl.map fun q => reD (vr q.2)) [a0, a1, a2, a3, a4, a5, a6, a7, a8, a9, a10, a11, a12, a13, a14, a15, a16, a17, a18, a19, a20, a21, a22, a23, a24, none] [] = .ok (pl.map fun q => D.int (vr q.2).1, [a0, a1, a2, a3, a4, a5, a6, a7, a8, a9, a10, a11, a12, a13, a14, a15, a16, a17, a18, a19, a20, a21, a22, a23, a24, none]) := by
  have hl := hp.2
  rw [compL_map (fun q : Fm × Vl => reD (vr q.2)) (fun q : Fm × Vl => D.int (vr q.2).1)]
  · simp
  · intro q hq
    simp [reD]
  · simp [lim]; omega
theorem c25_1 (hp : PL many pl) (a0 a1 a2 a3 a4 a5 a6 a7 a8 a9 a10 a11 a12 a13 a14 a15 a16 a17 a18 a19 a20 a21 a22 a23 a24 : Option (W × D)) : compL (compT (evE (Z (N + 20)) mk (.lit (.bl true))) (evE (Z (N + 20)) mk (.prim .item (.cons (.brw 25 []) (.cons (.lit (.int 1)) .nil)))) (.tgName 25) [25]) (pl.map fun q => reD (vr q.2)) [a0, a1, a2, a3, a4, a5, a6, a7, a8, a9, a10, a11, a12, a13, a14, a15, a16, a17, a18, a19, a20, a21, a22, a23, a24, none] [] = .ok (pl.map fun q => D.int (vr q.2).2, [a0, a1, a2, a3, a4, a5, a6, a7, a8, a9, a10, a11, a12, a13, a14, a15, a16, a17, a18, a19, a20, a21, a22, a23, a24, none]) := by
  have hl := hp.2
  rw [compL_map (fun q : Fm × Vl => reD (vr q.2)) (fun q : Fm × Vl => D.int (vr q.2).2)]
  · simp
  · intro q hq
    simp [reD]
  · simp [lim]; omega
theorem turn36 (hp : PL many pl) (hn : pl ≠ []) (f : Int) (a0 a1 a2 a3 a4 a5 a6 a7 a9 a10 a11 a12 a13 a14 a15 a16 a17 a18 a19 a20 a21 a22 a23 a24 a25 : Option (W × D)) : trn (Z (N + 20)) mk (.tgName 9) l36_0 (plD pl) [a0, a1, a2, a3, a4, a5, a6, a7, some (.frz, .int f), a9, a10, a11, a12, a13, a14, a15, a16, a17, a18, a19, a20, a21, a22, a23, a24, a25] = .nx [a0, a1, a2, a3, a4, a5, a6, a7, some (.frz, .int (stepR f pl)), some (.frz, plD pl), a10, a11, a12, a13, a14, a15, a16, a17, some (.frz, .lst (pl.map fun q => reD (vr q.2))), a19, a20, a21, a22, a23, a24, a25] := by
  have b := pr_bd hp
  have m : mulOk (pr pl).1 f = true := mulOk_l (by omega) (by omega)
  have x1 := mx1 hn
  have x2 := mx2 hn
  have e1 := c35 (N := N) (mk := mk) hp
  have e2 := c25_0 (N := N) (mk := mk) hp
  have e3 := c25_1 (N := N) (mk := mk) hp
  simp [L36_0, plD, e1, e2, e3, x1, x2, m, stepR]
end
theorem loop36 {N : Nat} {mk : CF} {many : Nat} {pl : List (Fm × Vl)} (hm1 : 1 ≤ many) (hm3 : many ≤ 3) (hp : PL many pl) (hy : ∃ v, (Fm.yes, v) ∈ pl) (p : Pot) (a3 a4 a6 a7 a8 a9 a10 a11 a12 a13 a14 a15 a16 a17 a18 a19 a20 a21 a22 a23 a24 a25 : Option (W × D)) : ∃ (p' : Pot) (b7 b10 b11 b12 b19 b20 b21 : Option (W × D)), forL (trn (Z (N + 20)) mk (.tgName 7) l36_2) ((List.range 12).map fun k : Nat => D.int (k : Int)) [some (.own .frz, p.d), some (.frz, .int many), some (.frz, plD pl), a3, a4, some (.frz, reD (pr pl)), a6, a7, a8, a9, a10, a11, a12, a13, a14, a15, a16, a17, a18, a19, a20, a21, a22, a23, a24, a25] = .nx [some (.own .frz, p'.d), some (.frz, .int many), some (.frz, plD pl), a3, a4, some (.frz, reD (pr pl)), a6, b7, a8, a9, b10, b11, b12, a13, a14, a15, a16, a17, a18, b19, b20, b21, a22, a23, a24, a25] := by
  obtain ⟨⟨p', b7, b10, b11, b12, b19, b20, b21⟩, e⟩ := forL_inv (turn := trn (Z (N + 20)) mk (.tgName 7) l36_2) (fun k : Nat => D.int (k : Int)) (fun i : Pot × Option (W × D) × Option (W × D) × Option (W × D) × Option (W × D) × Option (W × D) × Option (W × D) × Option (W × D) => [some (.own .frz, i.1.d), some (.frz, .int many), some (.frz, plD pl), a3, a4, some (.frz, reD (pr pl)), a6, i.2.1, a8, a9, i.2.2.1, i.2.2.2.1, i.2.2.2.2.1, a13, a14, a15, a16, a17, a18, i.2.2.2.2.2.1, i.2.2.2.2.2.2.1, i.2.2.2.2.2.2.2, a22, a23, a24, a25]) (List.range 12) (fun k hk i => by
    obtain ⟨p', b10, b11, b12, b19, b20, b21, e⟩ := body36 (N := N) (mk := mk) hm1 hm3 hp hy (k : Int) i.1 a3 a4 a6 i.2.1 a8 a9 i.2.2.1 i.2.2.2.1 i.2.2.2.2.1 a13 a14 a15 a16 a17 a18 i.2.2.2.2.2.1 i.2.2.2.2.2.2.1 i.2.2.2.2.2.2.2 a22 a23 a24 a25
    exact ⟨(p', some (.frz, .int k), b10, b11, b12, b19, b20, b21), e⟩) (p, a7, a10, a11, a12, a19, a20, a21)
  exact ⟨p', b7, b10, b11, b12, b19, b20, b21, e⟩
theorem right (N : Nat) (p : Pot) : ∃ p' : Pot, Z (N + 21) 36 [p.d] = .ok (.bl true, [p'.d]) := by
  obtain ⟨mk, hmk⟩ := r36 (N + 20)
  rw [hmk]
  obtain ⟨x, p1, x0, x1, e1⟩ := draw p 3 (by decide) (by decide)
  obtain ⟨many, hmany⟩ : ∃ many : Nat, 1 + x = (many : Int) := ⟨(1 + x).toNat, by omega⟩
  have hm1 : 1 ≤ many := by omega
  have hm3 : many ≤ 3 := by omega
  obtain ⟨l, v, p2, hl, hl2, e2⟩ := plan (N + 9) many hm3 p1
  have hp : PL many (l ++ [(Fm.yes, v)]) := ⟨hl, by simp; omega⟩
  have hn : l ++ [(Fm.yes, v)] ≠ [] := by simp
  have hy : ∃ v', (Fm.yes, v') ∈ l ++ [(Fm.yes, v)] := ⟨v, by simp⟩
  generalize l ++ [(Fm.yes, v)] = pl at *
  obtain ⟨s, rp⟩ := plan_repr hm3 hp
  have e4 := c35 (N := N) (mk := mk) hp
  have e5 := c9_0 (N := N) (mk := mk) hp
  have e5b := c9_1 (N := N) (mk := mk) hp
  have e6 := c34 (N := N) (mk := mk) hp
  have x1' := mx1 hn
  have x2' := mx2 hn
  have sm := sumD_mapf (fun q : Fm × Vl => (q.1.cnt : Int)) pl
  have e7 := plan_reach (N + 17) hp hn
  have e8 := plan_size (N + 18) hp
  have e9 := is_lst [reD (pr pl), reD (pr pl), .int (pl.map fun q => (q.1.cnt : Int)).sum, .int (pl.map fun q => (q.1.cnt : Int)).sum] (N + 19) (by simp) fun d hd => by
    simp only [List.mem_cons, List.not_mem_nil, or_false] at hd
    rcases hd with rfl | rfl | rfl | rfl
    · exact is_re (N + 17) _
    · exact is_re (N + 17) _
    · exact is_int _ (N + 18)
    · exact is_int _ (N + 18)
  have l4 : 4 ≤ lim := by decide
  have l3 : 3 ≤ lim := by decide
  have l2 : 2 ≤ lim := by decide
  have l1 : 1 ≤ lim := by decide
  have rg : ∀ e, rng (.int 12, e) = .ok ((List.range 12).map fun k : Nat => D.int (k : Int), e) := fun e => rng_ok (by decide) (by decide)
  obtain ⟨p3, b7, b10, b11, b12, b19, b20, b21, e10⟩ := loop36 (N := N) (mk := mk) hm1 hm3 hp hy p2 (some (.frz, .str s)) (some (.frz, .lst (pl.map fun q => reD (vr q.2)))) (some (.frz, .int (pl.map fun q => (q.1.cnt : Int)).sum)) none none none none none none none none none none none none none none none none none none none
  obtain ⟨l1', v1, p4, h1, h1l, e11⟩ := plan (N + 9) 0 (by decide) p3
  have hp1 : PL 0 (l1' ++ [(Fm.yes, v1)]) := ⟨h1, by simp; omega⟩
  have hn1 : l1' ++ [(Fm.yes, v1)] ≠ [] := by simp
  generalize l1' ++ [(Fm.yes, v1)] = q1 at *
  obtain ⟨l2', v2, p5, h2, h2l, e12⟩ := plan (N + 9) 2 (by decide) p4
  have hp2 : PL 2 (l2' ++ [(Fm.yes, v2)]) := ⟨h2, by simp; omega⟩
  have hn2 : l2' ++ [(Fm.yes, v2)] ≠ [] := by simp
  generalize l2' ++ [(Fm.yes, v2)] = q2 at *
  obtain ⟨most, p6, m0, m1, e13⟩ := draw p5 50 (by decide) (by decide)
  have t1 := turn36 (N := N) (mk := mk) hp1 hn1
  have t2 := turn36 (N := N) (mk := mk) hp2 hn2
  have e14 := defence_reach (N + 16) hp1 hp2 hn1 hn2 most
  have e15 := is_lst [.int (stepR (stepR most q1) q2), .int (stepR (stepR most q1) q2)] (N + 19) (by simp) fun d hd => by
    simp only [List.mem_cons, List.not_mem_nil, or_false] at hd
    rcases hd with rfl | rfl <;> exact is_int _ (N + 18)
  refine ⟨p6, ?_⟩
  simp only [plD, reD, pxD, dfD] at e2 rp e4 e5 e5b e6 e7 e8 e9 e10 e11 e12 t1 t2 e14 e15
  simp [runF_mk, e1, hmany, e2, rp, e4, e5, e5b, e6, x1', x2', sm, e7, e8, e9, l4, l3, l2, l1, rg, e10, e11, e12, e13, forL, -trn_eq, t1, t2, e14, e15] at e11 e12 ⊢
theorem law (N : Nat) (ns : List Int) : Z (N + 22) 37 [.lst (ns.map .int)] = .ok (.bl true, [.lst (ns.map .int)]) := by
  obtain ⟨mk, hmk⟩ := r37 (N + 21)
  rw [hmk]
  have key : ∀ K : Int, 0 ≤ K → K ≤ 3 → ∀ e0 : PV.Env, e0 = [some (.frz, .lst (ns.map .int)), none] → compL (compT (evE (Z (N + 21)) mk (.lit (.bl true))) (evE (Z (N + 21)) mk (.callM 36 .frz (.own .frz) (.call 13 (.own .frz) (.cons (.var 0) (.cons (.var 1) .nil))) .nil)) (.tgName 1) [1]) ((List.range K.toNat).map fun k : Nat => D.int (k : Int)) e0 [] = .ok ((List.range K.toNat).map fun _ => D.bl true, e0) := by
    intro K h0 h3 e0 he
    subst he
    rw [compL_map (fun k : Nat => D.int (k : Int)) (fun _ => D.bl true)]
    · simp
    · intro k hk
      have hk' := List.mem_range.mp hk
      obtain ⟨p, e1⟩ := pot ns k (by omega)
      obtain ⟨p', e2⟩ := right N p
      have e1' := e1 (N + 20)
      simp [e1', e2]
    · simp [lim]; omega
  have al : ∀ K : Nat, allD (.lst ((List.range K).map fun _ => D.bl true)) = some (.bl true) := fun K => by
    have : (List.range K).map (fun _ => D.bl true) = ((List.range K).map fun _ => true).map .bl := by rw [List.map_map]; rfl
    rw [this, allD_map]
    simp
  simp [runF_mk]
  rw [rng_ok (by split <;> (try split) <;> omega) (by split <;> (try split) <;> omega)]
  simp
  rw [key _ (by split <;> (try split) <;> omega) (by split <;> (try split) <;> omega) _ rfl]
  simp [al]
end K60
end

section
set_option Elab.async false
set_option maxRecDepth 100000
namespace K60
open PV
theorem plain : PV.Plain pg.fill 37 60 := fun ns _ => ⟨.lst (ns.map .int), by
  rw [tb_eq, ← Z_eq]
  exact law 38 ns⟩
theorem all_ok : ∀ fe ∈ pg.fes, fe.ok = true := by decide +kernel
theorem all_cd : ∀ fe ∈ pg.fes, (pg.code fe).isSome = true := by
  have e : pg.fes = hs := rfl
  rw [e]
  simp only [hs, List.mem_cons, List.not_mem_nil, or_false, forall_eq_or_imp, forall_eq, e0, e1, e2, e3, e4, e5, e6, e7, e8, e9, e10, e11, e12, e13, e14, e15, e16, e17, e18, e19, e20, e21, e22, e23, e24, e25, e26, e27, e28, e29, e30, e31, e32, e33, e34, e35, e36, e37, Option.isSome_some, and_self]
end K60
end

section
set_option Elab.async false
set_option maxRecDepth 100000
namespace K60
open PV
open PySem L2 PySem.Spec PyProof.Rows in
theorem fin {P : PySem.Program} {w : PySem.World} {K : PySem.W.Frag} {h : PySem.Heap} {mg : PySem.Str → Option PySem.Value} {fa : PySem.Addr} (_ : K.In h) (Z : ∃ (g : PV.Gx) (fd : Nat → PySem.FuncData), PV.Facts pg g K mg fd ∧ g.fa 37 = fa) :
    ∃ (fd : PySem.FuncData) (sp : Sp), (∀ (s : PySem.Shared) (u : PySem.Value), PySem.BindsTo s fd ⟨[u], []⟩ [("script", u)]) ∧ (∀ (H : Hp) (a : PySem.Addr) (ns : List Int), ns.length ≤ 63 → Only H → SqL K H a (ns.map V.int) → sp [.ref a] H (fun v _ => v = .bl true) fun _ _ _ => False) ∧
      ∀ base : PySem.Heap, K.In base → base.Ns PySem.mainGlobals mg → FnG P w K mg base 60 fa fd ["script"] sp :=
  let ⟨_, _, F, e⟩ := Z
  PV.law_end (P := P) (w := w) F e all_ok all_cd (kl := 37) (fl := h37) rfl rfl rfl rfl plain
end K60
open PySem PySem.W PyProof.Rows in
set_option maxRecDepth 100000 in
set_option maxHeartbeats 0 in
theorem PySem.Challenge.cw_defended_k60_values_and_reach_holds : PySem.Challenge.rw_defended_k60_values_and_reach.Holds := by
  w_on; o_law; k_head; (case hw => w_witness2)
  k_fill
  refine PV.walkG (l := PySem.Challenge.rw_defended_k60_values_and_reach) (n := 63) (k := 60) (x := "script") rfl (by decide) rfl ⟨rfl, by decide, by decide⟩ (fun w h Y => PySem.W.kIn_of Y) ?F
  case F =>
    intro w mg fa h KX G hmg
    refine K60.fin KX ?_
    refine' K60.all_mk (w := w) KX G hmg ?a0 ?l0 ?c0 ?k0 ?a1 ?l1 ?c1 ?k1 ?a2 ?l2 ?c2 ?k2 ?a3 ?l3 ?c3 ?k3 ?a4 ?l4 ?c4 ?k4 ?a5 ?l5 ?c5 ?k5 ?a6 ?l6 ?c6 ?k6 ?a7 ?l7 ?c7 ?k7 ?a8 ?l8 ?c8 ?k8 ?a9 ?l9 ?c9 ?k9 ?a10 ?l10 ?c10 ?k10 ?a11 ?l11 ?c11 ?k11 ?a12 ?l12 ?c12 ?k12 ?a13 ?l13 ?c13 ?k13 ?a14 ?l14 ?c14 ?k14 ?a15 ?l15 ?c15 ?k15 ?a16 ?l16 ?c16 ?k16 ?a17 ?l17 ?c17 ?k17 ?a18 ?l18 ?c18 ?k18 ?a19 ?l19 ?c19 ?k19 ?a20 ?l20 ?c20 ?k20 ?a21 ?l21 ?c21 ?k21 ?a22 ?l22 ?c22 ?k22 ?a23 ?l23 ?c23 ?k23 ?a24 ?l24 ?c24 ?k24 ?a25 ?l25 ?c25 ?k25 ?a26 ?l26 ?c26 ?k26 ?a27 ?l27 ?c27 ?k27 ?a28 ?l28 ?c28 ?k28 ?a29 ?l29 ?c29 ?k29 ?a30 ?l30 ?c30 ?k30 ?a31 ?l31 ?c31 ?k31 ?a32 ?l32 ?c32 ?k32 ?a33 ?l33 ?c33 ?k33 ?a34 ?l34 ?c34 ?k34 ?a35 ?l35 ?c35 ?k35 ?a36 ?l36 ?c36 ?k36 ?a37 ?l37 ?c37 ?k37 ?q0 ?q1 ?q2 ?q3 ?q4 ?q5 ?r5 ?q6 ?q7 ?q8 ?b0 ?b1 ?b2 ?b3 ?b4 ?b5 ?b6 ?b7 ?b8 ?b9 ?b10 ?b11 ?b12 ?b13 ?b14 ?b15 ?b16 ?b17 ?b18 
    (case a0 => k_is)
    (case l0 => k_is)
    (case c0 => k_is)
    (case k0 => k_is)
    (case a1 => k_is)
    (case l1 => k_is)
    (case c1 => k_is)
    (case k1 => k_is)
    (case a2 => k_is)
    (case l2 => k_is)
    (case c2 => k_is)
    (case k2 => k_is)
    (case a3 => k_is)
    (case l3 => k_is)
    (case c3 => k_is)
    (case k3 => k_is)
    (case a4 => k_is)
    (case l4 => k_is)
    (case c4 => k_is)
    (case k4 => k_is)
    (case a5 => k_is)
    (case l5 => k_is)
    (case c5 => k_is)
    (case k5 => k_is)
    (case a6 => k_is)
    (case l6 => k_is)
    (case c6 => k_is)
    (case k6 => k_is)
    (case a7 => k_is)
    (case l7 => k_is)
    (case c7 => k_is)
    (case k7 => k_is)
    (case a8 => k_is)
    (case l8 => k_is)
    (case c8 => k_is)
    (case k8 => k_is)
    (case a9 => k_is)
    (case l9 => k_is)
    (case c9 => k_is)
    (case k9 => k_is)
    (case a10 => k_is)
    (case l10 => k_is)
    (case c10 => k_is)
    (case k10 => k_is)
    (case a11 => k_is)
    (case l11 => k_is)
    (case c11 => k_is)
    (case k11 => k_is)
    (case a12 => k_is)
    (case l12 => k_is)
    (case c12 => k_is)
    (case k12 => k_is)
    (case a13 => k_is)
    (case l13 => k_is)
    (case c13 => k_is)
    (case k13 => k_is)
    (case a14 => k_is)
    (case l14 => k_is)
    (case c14 => k_is)
    (case k14 => k_is)
    (case a15 => k_is)
    (case l15 => k_is)
    (case c15 => k_is)
    (case k15 => k_is)
    (case a16 => k_is)
    (case l16 => k_is)
    (case c16 => k_is)
    (case k16 => k_is)
    (case a17 => k_is)
    (case l17 => k_is)
    (case c17 => k_is)
    (case k17 => k_is)
    (case a18 => k_is)
    (case l18 => k_is)
    (case c18 => k_is)
    (case k18 => k_is)
    (case a19 => k_is)
    (case l19 => k_is)
    (case c19 => k_is)
    (case k19 => k_is)
    (case a20 => k_is)
    (case l20 => k_is)
    (case c20 => k_is)
    (case k20 => k_is)
    (case a21 => k_is)
    (case l21 => k_is)
    (case c21 => k_is)
    (case k21 => k_is)
    (case a22 => k_is)
    (case l22 => k_is)
    (case c22 => k_is)
    (case k22 => k_is)
    (case a23 => k_is)
    (case l23 => k_is)
    (case c23 => k_is)
    (case k23 => k_is)
    (case a24 => k_is)
    (case l24 => k_is)
    (case c24 => k_is)
    (case k24 => k_is)
    (case a25 => k_is)
    (case l25 => k_is)
    (case c25 => k_is)
    (case k25 => k_is)
    (case a26 => k_is)
    (case l26 => k_is)
    (case c26 => k_is)
    (case k26 => k_is)
    (case a27 => k_is)
    (case l27 => k_is)
    (case c27 => k_is)
    (case k27 => k_is)
    (case a28 => k_is)
    (case l28 => k_is)
    (case c28 => k_is)
    (case k28 => k_is)
    (case a29 => k_is)
    (case l29 => k_is)
    (case c29 => k_is)
    (case k29 => k_is)
    (case a30 => k_is)
    (case l30 => k_is)
    (case c30 => k_is)
    (case k30 => k_is)
    (case a31 => k_is)
    (case l31 => k_is)
    (case c31 => k_is)
    (case k31 => k_is)
    (case a32 => k_is)
    (case l32 => k_is)
    (case c32 => k_is)
    (case k32 => k_is)
    (case a33 => k_is)
    (case l33 => k_is)
    (case c33 => k_is)
    (case k33 => k_is)
    (case a34 => k_is)
    (case l34 => k_is)
    (case c34 => k_is)
    (case k34 => k_is)
    (case a35 => k_is)
    (case l35 => k_is)
    (case c35 => k_is)
    (case k35 => k_is)
    (case a36 => k_is)
    (case l36 => k_is)
    (case c36 => k_is)
    (case k36 => k_is)
    (case a37 => k_is)
    (case l37 => k_is)
    (case c37 => k_is)
    (case k37 => k_is)
    (case q0 => k_is)
    (case q1 => k_is)
    (case q2 => k_is)
    (case q3 => k_is)
    (case q4 => k_is)
    (case q5 => k_is)
    (case r5 => k_is)
    (case q6 => k_is)
    (case q7 => k_is)
    (case q8 => k_is)
    (case b0 => k_is)
    (case b1 => k_is)
    (case b2 => k_is)
    (case b3 => k_is)
    (case b4 => k_is)
    (case b5 => k_is)
    (case b6 => k_is)
    (case b7 => k_is)
    (case b8 => k_is)
    (case b9 => k_is)
    (case b10 => k_is)
    (case b11 => k_is)
    (case b12 => k_is)
    (case b13 => k_is)
    (case b14 => k_is)
    (case b15 => k_is)
    (case b16 => k_is)
    (case b17 => k_is)
    (case b18 => k_is)
    all_goals first | exact #[] | exact PySem.Value.none
end
