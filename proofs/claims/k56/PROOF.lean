import PyProof.Rows.All
import Wide.All
import OpenK.AllK
import Wide.FinOn
import HandS.ForMost
import HandS.ForExc
import HandS.Wide
import HandS.IsInst
import HandS.Zip
import HandS.Style
import HandS.TupAny
import HandS.TupMul
import HandS.Conv
import HandS.CallSlots
import KE.DataEq
import KE.DataIsa
import KE.DataAny
import KE.DataMinMax
import PyProof.SumAny
import KE.GoesMore
import KE.KExcSuper
import KE.KSuper
import HandS.ExcField
import KE.SortData
import KE.DataFind
import HandS.Strs
import HandS.Sort
import HandS.TryOnly
import PySem.Challenge.RW_farandnear_k56_whole_tables_taken_apart
section
/-! Dat: plain data for a small part of Python, its results, and the meaning of each construct as a plain Lean function. No model in sight. -/
namespace Fx

/-- data that nobody changes: lst is a list that is only read -/
inductive D where
  | non | bl (b : Bool) | int (i : Int) | str (s : String) | tup (l : List D) | lst (l : List D)

/-- what a name may hold: data; a list of one's own; a list of one's own lists; a dict of one's own -/
inductive Vl where
  | v (d : D) | o (l : List D) | oo (l : List (List D)) | dc (l : List (D × D)) | rg (lo hi : Int)

/-- an error: its class, its fields -/
structure Ex where
  cls : String
  fs : List (String × D)

abbrev En := List (Option Vl)

/-- what an expression comes to -/
inductive Rs (α : Type) where
  | ok (a : α) (e : En) | ex (x : Ex) (e : En) | bad

abbrev M (α : Type) := En → Rs α

/-- what a statement comes to -/
inductive Out where
  | nxt (e : En) | ret (x : Vl) (e : En) | brk (e : En) | cnt (e : En) | ex (x : Ex) (e : En) | bad

abbrev C := En → Out

/-- a def: its arguments to what it hands back and what its lent arguments hold then -/
inductive Fr where
  | ok (x : Vl) (outs : List Vl) | ex (x : Ex) | bad

abbrev F := List Vl → Fr

def Vl.d : Vl → Option D
  | .v d => some d
  | .o l => some (.lst l)
  | .oo l => some (.lst (l.map .lst))
  | .dc _ => none
  | .rg _ _ => none

/-- no lists of one's own lists, no dict -/
def Vl.flat : Vl → Bool
  | .oo _ => false
  | .dc _ => false
  | .rg _ _ => false
  | _ => true

def b2i (b : Bool) : Int := if b then 1 else 0

mutual
def D.eq : D → D → Bool
  | .non, .non => true
  | .bl a, .bl b => a == b
  | .bl a, .int j => decide (b2i a = j)
  | .int i, .bl b => decide (i = b2i b)
  | .int i, .int j => decide (i = j)
  | .str a, .str b => decide (a = b)
  | .tup l, .tup m => D.eqs l m
  | .lst l, .lst m => D.eqs l m
  | _, _ => false
def D.eqs : List D → List D → Bool
  | [], [] => true
  | a :: l, b :: m => D.eq a b && D.eqs l m
  | _, _ => false
end

mutual
def D.dep : D → Nat
  | .tup l => D.deps l + 1
  | .lst l => D.deps l + 1
  | _ => 0
def D.deps : List D → Nat
  | [] => 0
  | a :: l => max (D.dep a) (D.deps l)
end

def lim : Nat := 16777216

/-- an int's product is small enough -/
def mulOk (i j : Int) : Bool := (decide (i.natAbs < 2 ^ 64) || decide (j.natAbs < 2 ^ 64)) || decide (i.natAbs.log2 + j.natAbs.log2 < 1000000)
/-- a positive divisor -/
def divOk (j : Int) : Bool := decide (0 < j) && decide (j.natAbs.log2 < 9000)

@[simp] def Rs.then {α β : Type} (r : Rs α) (f : α → En → Rs β) : Rs β :=
  match r with
  | .ok a e => f a e
  | .ex x e => .ex x e
  | .bad => .bad

/-- a machine's number (asked in a way that the kernel does not walk) -/
def smallI (i : Int) : Bool := decide (i.natAbs.log2 < 61)
theorem small_of {i : Int} (h : smallI i = true) : -4611686018427387904 ≤ i ∧ i < 4611686018427387904 := by
  unfold smallI at h
  have h1 := of_decide_eq_true h
  by_cases hz : i.natAbs = 0
  · omega
  · have h2 := (Nat.log2_lt hz).mp h1
    omega
theorem small_le {i : Int} (h : i.natAbs ≤ 1000000) : smallI i = true := by
  unfold smallI
  refine decide_eq_true ?_
  by_cases hz : i.natAbs = 0
  · rw [hz]; decide
  · exact (Nat.log2_lt hz).mpr (by omega)

def lift {α : Type} (o : Option α) (e : En) : Rs α := match o with
  | some a => .ok a e
  | none => .bad

/-! ### expressions -/
def eC (d : D) : M Vl := fun e => .ok (.v d) e
/-- a name, its value taken: a list of one's own is lent to reading for good -/
def eV (i : Nat) : M Vl := fun e => match e[i]? with
  | some (some (.v d)) => .ok (.v d) e
  | some (some (.o l)) => .ok (.v (.lst l)) (e.set i (some (.v (.lst l))))
  | some (some (.oo l)) => .ok (.v (.lst (l.map .lst))) (e.set i (some (.v (.lst (l.map .lst)))))
  | _ => .bad
/-- a name that is only looked at -/
def eP (i : Nat) : M Vl := fun e => match e[i]? with
  | some (some x) => if x.flat then lift (x.d.map .v) e else .bad
  | _ => .bad
def e1 (f : Vl → Option Vl) (a : M Vl) : M Vl := fun e => (a e).then fun x e => lift (f x) e
def e2 (f : Vl → Vl → Option Vl) (a b : M Vl) : M Vl := fun e => (a e).then fun x e => (b e).then fun y e => lift (f x y) e

def oAdd : Vl → Vl → Option Vl
  | .v (.int i), .v (.int j) => some (.v (.int (i + j)))
  | .v (.tup l), .v (.tup m) => if l.length + m.length ≤ lim then some (.v (.tup (l ++ m))) else none
  | .v (.lst l), .v (.lst m) => if l.length + m.length ≤ lim then some (.o (l ++ m)) else none
  | .v (.lst l), .o m => if l.length + m.length ≤ lim then some (.o (l ++ m)) else none
  | .o l, .v (.lst m) => if l.length + m.length ≤ lim then some (.o (l ++ m)) else none
  | .o l, .o m => if l.length + m.length ≤ lim then some (.o (l ++ m)) else none
  | _, _ => none
def oSub : Vl → Vl → Option Vl
  | .v (.int i), .v (.int j) => some (.v (.int (i - j)))
  | _, _ => none
def oMul : Vl → Vl → Option Vl
  | .v (.int i), .v (.int j) => if mulOk i j then some (.v (.int (i * j))) else none
  | .v (.tup l), .v (.int j) => if l ≠ [] ∧ 0 ≤ j ∧ j ≤ 1000 ∧ l.length ≤ 1000 then some (.v (.tup (List.replicate j.toNat l).flatten)) else none
  | .o l, .v (.int j) => if smallI j = true ∧ l.length * j.toNat ≤ lim then some (.o (List.replicate j.toNat l).flatten) else none
  | _, _ => none
def oMod : Vl → Vl → Option Vl
  | .v (.int i), .v (.int j) => if 0 < j then some (.v (.int (i % j))) else none
  | _, _ => none
def oDiv : Vl → Vl → Option Vl
  | .v (.int i), .v (.int j) => if divOk j then some (.v (.int (i / j))) else none
  | _, _ => none
def oPow : Vl → Vl → Option Vl
  | .v (.int i), .v (.int j) => if 0 ≤ j ∧ j ≤ 1000000 ∧ i.natAbs < 2 ^ 64 then some (.v (.int (i ^ j.toNat))) else none
  | _, _ => none
def oNeg : Vl → Option Vl
  | .v (.int i) => some (.v (.int (-i)))
  | _ => none
def oLt : Vl → Vl → Option Vl
  | .v (.int i), .v (.int j) => some (.v (.bl (decide (i < j))))
  | _, _ => none
def oLe : Vl → Vl → Option Vl
  | .v (.int i), .v (.int j) => some (.v (.bl (decide (i ≤ j))))
  | _, _ => none
def oGt : Vl → Vl → Option Vl
  | .v (.int i), .v (.int j) => some (.v (.bl (decide (j < i))))
  | _, _ => none
def oGe : Vl → Vl → Option Vl
  | .v (.int i), .v (.int j) => some (.v (.bl (decide (j ≤ i))))
  | _, _ => none
def Vl.eq (x y : Vl) : Option Bool := match x.d, y.d with
  | some a, some b => if min a.dep b.dep ≤ 64 then some (D.eq a b) else none
  | _, _ => none
def oEq (x y : Vl) : Option Vl := (Vl.eq x y).map fun b => .v (.bl b)
def oNe (x y : Vl) : Option Vl := (Vl.eq x y).map fun b => .v (.bl (!b))
def D.items : D → Option (List D)
  | .tup l => some l
  | .lst l => some l
  | _ => none
def Vl.items : Vl → Option (List D)
  | .v d => d.items
  | .o l => some l
  | _ => none
def inD (a : D) (l : List D) : Bool := l.any fun y => D.eq y a
def oIn (x y : Vl) : Option Vl := match x.d, y.items with
  | some a, some l => if a.dep ≤ 64 then some (.v (.bl (inD a l))) else none
  | _, _ => none
def oNotIn (x y : Vl) : Option Vl := match x.d, y.items with
  | some a, some l => if a.dep ≤ 64 then some (.v (.bl (!inD a l))) else none
  | _, _ => none
def D.isNon : D → Bool
  | .non => true
  | _ => false
def oIsN (x : Vl) : Option Vl := x.d.map fun a => .v (.bl a.isNon)
def oNotN (x : Vl) : Option Vl := x.d.map fun a => .v (.bl (!a.isNon))
def oIsB (c : Bool) : Vl → Option Vl
  | .v (.bl a) => some (.v (.bl (decide (a = c))))
  | _ => none
def oNotB (c : Bool) : Vl → Option Vl
  | .v (.bl a) => some (.v (.bl (!decide (a = c))))
  | _ => none

/-! tests -/
def Vl.bool : Vl → Option Bool
  | .v (.bl b) => some b
  | _ => none
def Vl.truth : Vl → Option Bool
  | .v (.bl b) => some b
  | .v .non => some false
  | .v (.int i) => some (decide (i ≠ 0))
  | .v (.tup l) => some (!l.isEmpty)
  | .v (.lst l) => some (!l.isEmpty)
  | .o l => some (!l.isEmpty)
  | _ => none
def tB (a : M Vl) : M Bool := fun e => (a e).then fun x e => lift x.bool e
def tT (a : M Vl) : M Bool := fun e => (a e).then fun x e => lift x.truth e
def tAnd (a b : M Bool) : M Bool := fun e => (a e).then fun c e => if c then b e else .ok false e
def tOr (a b : M Bool) : M Bool := fun e => (a e).then fun c e => if c then .ok true e else b e
def tNot (a : M Bool) : M Bool := fun e => (a e).then fun c e => .ok (!c) e
/-- a test's answer as a value -/
def eB (a : M Bool) : M Vl := fun e => (a e).then fun c e => .ok (.v (.bl c)) e
def eIf (t : M Bool) (a b : M Vl) : M Vl := fun e => (t e).then fun c e => if c then a e else b e

/-! displays -/
def eNil : M (List D) := fun e => .ok [] e
def eCons (a : M Vl) (r : M (List D)) : M (List D) := fun e => (a e).then fun x e => match x.d with
  | some d => (r e).then fun ds e => .ok (d :: ds) e
  | none => .bad
def eTup (r : M (List D)) : M Vl := fun e => (r e).then fun ds e => .ok (.v (.tup ds)) e
def eLst (r : M (List D)) : M Vl := fun e => (r e).then fun ds e => .ok (.o ds) e

/-! places -/
def ixN (n : Nat) (i : Int) : Option Nat := if 0 ≤ i then (if i < n then some i.toNat else none) else if -(n : Int) ≤ i then some (i + n).toNat else none
def atD {α : Type} (l : List α) (i : Int) : Option α := (ixN l.length i).bind fun j => l[j]?
def oIx (x y : Vl) : Option Vl := match x.items, y with
  | some l, .v (.int i) => (atD l i).map .v
  | _, _ => none
/-- x[i], x a name that is only looked at, behind i -/
def eIxP (k : Nat) (b : M Vl) : M Vl := fun e => match e[k]? with
  | some (some _) => (b e).then fun y e => (match e[k]? with
    | some (some x) => lift (oIx x y) e
    | _ => .bad)
  | _ => .bad
/-! whole numbers that change nothing -/
abbrev N := En → Option Int
def nI (i : Int) : N := fun _ => some i
def nV (k : Nat) : N := fun e => match e[k]? with
  | some (some (.v (.int i))) => some i
  | _ => none
def nAdd (a b : N) : N := fun e => (a e).bind fun i => (b e).map fun j => i + j
def nSub (a b : N) : N := fun e => (a e).bind fun i => (b e).map fun j => i - j
def nNeg (a : N) : N := fun e => (a e).map fun i => -i
/-- x[i][j], x a name that holds a list of one's own lists -/
def eIxPP (k : Nat) (a b : N) : M Vl := fun e => match e[k]?, a e, b e with
  | some (some (.oo l)), some i, some j => lift (((atD l i).bind fun r => atD r j).map .v) e
  | _, _, _ => .bad
/-- len(x), x a name that holds a list of one's own lists -/
def eLenO (k : Nat) : M Vl := fun e => match e[k]? with
  | some (some (.oo l)) => .ok (.v (.int l.length)) e
  | _ => .bad
def sIx (n d : Nat) : Option Int → Nat
  | none => d
  | some v => if v < 0 then (v + n).toNat else min v.toNat n
def cutL {α : Type} (l : List α) (lo hi : Option Int) : List α := (l.drop (sIx l.length 0 lo)).take (sIx l.length l.length hi - sIx l.length 0 lo)
def pNo : M (Option Int) := fun e => .ok none e
def Vl.int : Vl → Option Int
  | .v (.int i) => some i
  | _ => none
def pSome (a : M Vl) : M (Option Int) := fun e => (a e).then fun x e => lift (x.int.map some) e
def oCut (x : Vl) (lo hi : Option Int) : Option Vl := match x with
  | .v (.tup l) => some (.v (.tup (cutL l lo hi)))
  | .v (.lst l) => some (.o (cutL l lo hi))
  | .o l => some (.o (cutL l lo hi))
  | _ => none
def eCut (a : M Vl) (lo hi : M (Option Int)) : M Vl := fun e => (a e).then fun x e => (lo e).then fun l e => (hi e).then fun h e => lift (oCut x l h) e
def oRev : Vl → Option Vl
  | .v (.tup l) => some (.v (.tup l.reverse))
  | .v (.lst l) => some (.o l.reverse)
  | .o l => some (.o l.reverse)
  | _ => none

/-! built-ins -/
def oLen (x : Vl) : Option Vl := x.items.map fun l => .v (.int l.length)
def oTuple (x : Vl) : Option Vl := x.items.map fun l => .v (.tup l)
def oList (x : Vl) : Option Vl := x.items.map fun l => .o l
def oInt : Vl → Option Vl
  | .v (.int i) => some (.v (.int i))
  | .v (.bl b) => some (.v (.int (b2i b)))
  | _ => none
def oAbs : Vl → Option Vl
  | .v (.int i) => some (.v (.int (if i < 0 then -i else i)))
  | _ => none
def D.bools : List D → Option (List Bool)
  | [] => some []
  | .bl b :: l => (D.bools l).map (b :: ·)
  | _ => none
def D.ints : List D → Option (List Int)
  | [] => some []
  | .int i :: l => (D.ints l).map (i :: ·)
  | _ => none
/-- machine's numbers -/
def D.smalls : List D → Option (List Int)
  | [] => some []
  | .int i :: l => if smallI i then (D.smalls l).map (i :: ·) else none
  | _ => none
def oAnyI (x : Vl) : Option Vl := (x.items.bind D.smalls).map fun l => .v (.bl (l.any fun i => decide (i ≠ 0)))
def oAny (x : Vl) : Option Vl := (x.items.bind D.bools).map fun l => .v (.bl (l.any id))
def oAll (x : Vl) : Option Vl := (x.items.bind D.bools).map fun l => .v (.bl (l.all id))
def oSum (x : Vl) : Option Vl := (x.items.bind D.ints).map fun l => .v (.int l.sum)
def maxL : List Int → Option Int
  | [] => none
  | a :: l => some (l.foldl max a)
def minL : List Int → Option Int
  | [] => none
  | a :: l => some (l.foldl min a)
def oMaxL (x : Vl) : Option Vl := ((x.items.bind D.ints).bind maxL).map fun i => .v (.int i)
def oMinL (x : Vl) : Option Vl := ((x.items.bind D.ints).bind minL).map fun i => .v (.int i)
def oMax2 : Vl → Vl → Option Vl
  | .v (.int i), .v (.int j) => some (.v (.int (if i < j then j else i)))
  | _, _ => none
def oMin2 : Vl → Vl → Option Vl
  | .v (.int i), .v (.int j) => some (.v (.int (if j < i then j else i)))
  | _, _ => none
inductive Ty where
  | tInt | tBool | tStr | tTuple | tList
def D.isA : Ty → D → Bool
  | .tInt, .int _ => true
  | .tInt, .bl _ => true
  | .tBool, .bl _ => true
  | .tStr, .str _ => true
  | .tTuple, .tup _ => true
  | .tList, .lst _ => true
  | _, _ => false
def oIsA (t : Ty) (x : Vl) : Option Vl := x.d.map fun a => .v (.bl (a.isA t))

/-- x is y -/
def oIs : Vl → Vl → Option Vl
  | x, .v .non => oIsN x
  | .v (.bl a), .v (.bl c) => some (.v (.bl (decide (a = c))))
  | _, _ => none
def oIsNot : Vl → Vl → Option Vl
  | x, .v .non => oNotN x
  | .v (.bl a), .v (.bl c) => some (.v (.bl (!decide (a = c))))
  | _, _ => none
/-- a op b op' c, b data -/
def eChain (f g : Vl → Vl → Option Vl) (a b c : M Vl) : M Vl := fun e => (a e).then fun x e => (b e).then fun y e => match y, f x y with
  | .v _, some (.v (.bl true)) => (c e).then fun z e => lift (g y z) e
  | .v _, some (.v (.bl false)) => .ok (.v (.bl false)) e
  | _, _ => .bad
/-- sorted(..) of whole numbers -/
def oSortI (x : Vl) : Option Vl := (x.items.bind D.ints).map fun l => .o ((l.mergeSort fun a b => decide (a ≤ b)).map .int)
def tiD (r : List Int) : D := .tup (r.map .int)
/-- rows (tuples) of whole numbers, none empty -/
def D.introws : List D → Option (List (List Int))
  | [] => some []
  | .tup (d :: m) :: l => match D.ints (d :: m), D.introws l with
    | some ns, some rs => some (ns :: rs)
    | _, _ => none
  | _ => none
def oSortT (x : Vl) : Option Vl := (x.items.bind D.introws).map fun rs => .o ((rs.mergeSort fun a b => decide (a ≤ b)).map tiD)
def oSort (x : Vl) : Option Vl := match oSortI x with
  | some z => some z
  | none => oSortT x
def fIx (l : List D) (d : D) : Option D := (l.findIdx? fun z => D.eq z d).map fun (i : Nat) => D.int (i : Int)
def fCt (l : List D) (d : D) : Option D := some (.int ((l.countP fun z => D.eq z d : Nat) : Int))
def kMet (f : List D → D → Option D) (l : List D) (y : Vl) : M Vl := fun e => match y.d with
  | some d => if d.dep ≤ 60 then lift ((f l d).map .v) e else .bad
  | none => .bad
def kMetT (f : List D → D → Option D) (b : M Vl) (x : Vl) : M Vl := fun e => match x with
  | .v (.tup l) => (b e).then fun y e => kMet f l y e
  | _ => .bad
/-- x.m(y), x a tuple -/
def eMetT (f : List D → D → Option D) (a b : M Vl) : M Vl := fun e => (a e).then (kMetT f b)
def Vl.lst? : Vl → Option (List D)
  | .v (.lst l) => some l
  | .o l => some l
  | _ => none
def kMetL (f : List D → D → Option D) (b : M Vl) (x : Vl) : M Vl := fun e => match x.lst? with
  | some l => (b e).then fun y e => kMet f l y e
  | none => .bad
/-- x.m(y), x a list -/
def eMetL (f : List D → D → Option D) (a b : M Vl) : M Vl := fun e => (a e).then (kMetL f b)
def eAnd (a b : M Vl) : M Vl := fun e => (a e).then fun x e => match x.bool with
  | some true => b e
  | some false => .ok (.v (.bl false)) e
  | none => .bad
def eOr (a b : M Vl) : M Vl := fun e => (a e).then fun x e => match x.bool with
  | some true => .ok (.v (.bl true)) e
  | some false => b e
  | none => .bad
def oNot (x : Vl) : Option Vl := x.bool.map fun c => .v (.bl (!c))
def eCode (x : Ex) : M Vl := fun e => match x.fs with
  | [("code", d)] => .ok (.v d) e
  | _ => .bad
/-! what is walked -/
def iL (a : M Vl) : M (List D) := fun e => (a e).then fun x e => lift x.items e
def rng (lo : Int) (n : Nat) : List D := (List.range n).map fun (k : Nat) => .int (lo + (k : Int))
def iR1 (a : M Vl) : M (List D) := fun e => (a e).then fun x e => match x with
  | .v (.int j) => if smallI j then .ok (rng 0 j.toNat) e else .bad
  | _ => .bad
def iR2 (a b : M Vl) : M (List D) := fun e => (a e).then fun x e => (b e).then fun y e => match x, y with
  | .v (.int i), .v (.int j) => if smallI i && smallI j then .ok (rng i (j - i).toNat) e else .bad
  | _, _ => .bad
/-- range(..) as a value -/
def oRg : Vl → Option Vl
  | .v (.int j) => if smallI j then some (.rg 0 j) else none
  | _ => none
/-- a name that holds a range is walked -/
def iRv (k : Nat) : M (List D) := fun e => match e[k]? with
  | some (some (.rg lo hi)) => if smallI lo && smallI hi then .ok (rng lo (hi - lo).toNat) e else .bad
  | _ => .bad
def rgOk (i j : Int) : Bool := smallI i && smallI j && decide ((j - i).toNat ≤ lim)
/-- list(range(..)), tuple(range(..)) -/
def kLr1 (x : Vl) : M Vl := fun e => match x with
  | .v (.int j) => if rgOk 0 j then .ok (.o (rng 0 j.toNat)) e else .bad
  | _ => .bad
def eLr1 (a : M Vl) : M Vl := fun e => (a e).then kLr1
def kLr2 (x y : Vl) : M Vl := fun e => match x, y with
  | .v (.int i), .v (.int j) => if rgOk i j then .ok (.o (rng i (j - i).toNat)) e else .bad
  | _, _ => .bad
def eLr2 (a b : M Vl) : M Vl := fun e => (a e).then fun x e => (b e).then fun y e => kLr2 x y e
def kTr1 (x : Vl) : M Vl := fun e => match x with
  | .v (.int j) => if rgOk 0 j then .ok (.v (.tup (rng 0 j.toNat))) e else .bad
  | _ => .bad
def eTr1 (a : M Vl) : M Vl := fun e => (a e).then kTr1
def kTr2 (x y : Vl) : M Vl := fun e => match x, y with
  | .v (.int i), .v (.int j) => if rgOk i j then .ok (.v (.tup (rng i (j - i).toNat))) e else .bad
  | _, _ => .bad
def eTr2 (a b : M Vl) : M Vl := fun e => (a e).then fun x e => (b e).then fun y e => kTr2 x y e
def enumD (k : Nat) : List D → List D
  | [] => []
  | d :: l => .tup [.int (k : Int), d] :: enumD (k + 1) l
def iEnum (a : M Vl) : M (List D) := fun e => (a e).then fun x e => lift (x.items.map (enumD 0)) e
def zipD : List D → List D → List D
  | a :: l, b :: m => .tup [a, b] :: zipD l m
  | _, _ => []
def iZip (a b : M Vl) : M (List D) := fun e => (a e).then fun x e => (b e).then fun y e => match x.items, y.items with
  | some l, some m => .ok (zipD l m) e
  | _, _ => .bad

/-- zip of two tuples or of two lists -/
def kZip (x y : Vl) : M (List D) := fun e => match x, y with
  | .v (.tup l), .v (.tup m) => .ok (zipD l m) e
  | .v (.lst l), .v (.lst m) => .ok (zipD l m) e
  | _, _ => .bad
def iZipS (a b : M Vl) : M (List D) := fun e => (a e).then fun x e => (b e).then fun y e => kZip x y e

/-! targets -/
def gN (i : Nat) : D → En → Option En := fun d e => some (e.set i (some (.v d)))
def gs : List (D → En → Option En) → List D → En → Option En
  | [], [], e => some e
  | g :: r, d :: l, e => (g d e).bind (gs r l)
  | _, _, _ => none
def gT (r : List (D → En → Option En)) : D → En → Option En := fun d e => match d with
  | .tup l => gs r l e
  | _ => none

/-- a tuple or a list is taken apart -/
def gL (r : List (D → En → Option En)) : D → En → Option En := fun d e => match d with
  | .tup l => gs r l e
  | .lst l => gs r l e
  | _ => none
def gIx (k : Nat) (f : N) : D → En → Option En := fun d e => match e[k]?, f e with
  | some (some (.o l)), some i => (ixN l.length i).map fun j => e.set k (some (.o (l.set j d)))
  | _, _ => none
/-- x[i] = .., the index reckoned behind the value -/
def gIxM (k : Nat) (m : M Vl) : D → En → Option En := fun d e => match e[k]? with
  | some (some (.o _)) => (match m e with
    | .ok (.v (.int i)) e1 => (match e1[k]? with
      | some (some (.o l)) => (ixN l.length i).map fun j => e1.set k (some (.o (l.set j d)))
      | _ => none)
    | _ => none)
  | _ => none
def gIx2 (k : Nat) (f g : N) : D → En → Option En := fun d e => match e[k]?, f e, g e with
  | some (some (.oo l)), some i, some j => (ixN l.length i).bind fun a => (l[a]?).bind fun r => (ixN r.length j).map fun b => e.set k (some (.oo (l.set a (r.set b d))))
  | _, _, _ => none

/-! methods of a list of one's own -/
def mApp (k : Nat) (a : M Vl) : M Vl := fun e => match e[k]? with
  | some (some (.o _)) => (a e).then fun y e => (match y.d, e[k]? with
    | some d, some (some (.o l)) => if l.length < lim then .ok (.v .non) (e.set k (some (.o (l ++ [d])))) else .bad
    | _, _ => .bad)
  | _ => .bad
def mExt (k : Nat) (a : M Vl) : M Vl := fun e => match e[k]? with
  | some (some (.o _)) => (a e).then fun y e => (match y, e[k]? with
    | .o r, some (some (.o l)) => if l.length + r.length ≤ lim then .ok (.v .non) (e.set k (some (.o (l ++ r)))) else .bad
    | _, _ => .bad)
  | _ => .bad
def mPop (k : Nat) (a : M Vl) : M Vl := fun e => match e[k]? with
  | some (some (.o _)) => (a e).then fun y e => (match y, e[k]? with
    | .v (.int i), some (some (.o l)) => if smallI i then (match ixN l.length i with
      | some j => (match l[j]? with
        | some d => .ok (.v d) (e.set k (some (.o (l.eraseIdx j))))
        | none => .bad)
      | none => .bad) else .bad
    | _, _ => .bad)
  | _ => .bad
def mPop0 (k : Nat) : M Vl := fun e => match e[k]? with
  | some (some (.o l)) => (match l[l.length - 1]? with
    | some d => .ok (.v d) (e.set k (some (.o l.dropLast)))
    | none => .bad)
  | _ => .bad

/-! comprehensions -/
def hide (e : En) : List Nat → En
  | [] => e
  | i :: r => (hide e r).set i none
/-- what a place held, if it was data -/
def keepD (o : Option (Option Vl)) : Option Vl := match o with
  | some (some (.v d)) => some (.v d)
  | _ => none
def unhide (old e : En) : List Nat → En
  | [] => e
  | i :: r => (unhide old e r).set i (keepD old[i]?)
/-- one clause: what is walked, the target, the test, the item -/
def compGo (vs : List Nat) (g : D → En → Option En) (t : M Bool) (x : M Vl) : List D → List D → En → Rs (List D)
  | [], acc, e => .ok acc e
  | d :: l, acc, e => match g d e with
    | none => .bad
    | some e1 => match t e1 with
      | .ok true e2 => (match x e2 with
        | .ok y e3 => (match y.d with
          | some z => compGo vs g t x l (acc ++ [z]) (hide e3 vs)
          | none => .bad)
        | _ => .bad)
      | .ok false e2 => compGo vs g t x l acc (hide e2 vs)
      | _ => .bad
def tYes : M Bool := fun e => .ok true e
def eComp (vs : List Nat) (it : M (List D)) (g : D → En → Option En) (t : M Bool) (x : M Vl) : M Vl := fun e => (it e).then fun l e1 =>
  if l.length ≤ lim then
    (match compGo vs g t x l [] (hide e1 vs) with
     | .ok acc e2 => .ok (.o acc) (unhide e1 e2 vs)
     | _ => .bad)
  else .bad

/-- one clause, each item a list of one's own -/
def compGoO (vs : List Nat) (g : D → En → Option En) (t : M Bool) (x : M Vl) : List D → List (List D) → En → Rs (List (List D))
  | [], acc, e => .ok acc e
  | d :: l, acc, e => match g d e with
    | none => .bad
    | some e1 => match t e1 with
      | .ok true e2 => (match x e2 with
        | .ok (.o y) e3 => compGoO vs g t x l (acc ++ [y]) (hide e3 vs)
        | _ => .bad)
      | .ok false e2 => compGoO vs g t x l acc (hide e2 vs)
      | _ => .bad
def eCompO (vs : List Nat) (it : M (List D)) (g : D → En → Option En) (t : M Bool) (x : M Vl) : M Vl := fun e => (it e).then fun l e1 =>
  if l.length ≤ lim then
    (match compGoO vs g t x l [] (hide e1 vs) with
     | .ok acc e2 => .ok (.oo acc) (unhide e1 e2 vs)
     | _ => .bad)
  else .bad

/-- two clauses -/
def compGo2 (vs vs1 : List Nat) (g : D → En → Option En) (t : M Bool) (it1 : M (List D)) (g1 : D → En → Option En) (t1 : M Bool) (x : M Vl) : List D → List D → En → Rs (List D)
  | [], acc, e => .ok acc e
  | d :: l, acc, e => match g d e with
    | none => .bad
    | some e1 => match t e1 with
      | .ok true e2 => (match it1 e2 with
        | .ok l1 e3 => if acc.length + l1.length ≤ lim then
            (match compGo vs1 g1 t1 x l1 acc (hide e3 vs1) with
             | .ok acc2 e4 => compGo2 vs vs1 g t it1 g1 t1 x l acc2 (hide e4 vs)
             | _ => .bad)
          else .bad
        | _ => .bad)
      | .ok false e2 => compGo2 vs vs1 g t it1 g1 t1 x l acc (hide e2 vs)
      | _ => .bad
def eComp2 (vs vs1 : List Nat) (it : M (List D)) (g : D → En → Option En) (t : M Bool) (it1 : M (List D)) (g1 : D → En → Option En) (t1 : M Bool) (x : M Vl) : M Vl := fun e => (it e).then fun l e1 =>
  match compGo2 vs vs1 g t it1 g1 t1 x l [] (hide e1 vs) with
  | .ok acc e2 => .ok (.o acc) (unhide e1 e2 vs)
  | _ => .bad

/-! calls -/
def Vl.own : Vl → Bool
  | .v _ => false
  | .rg _ _ => false
  | _ => true
/-- an argument: its value, or a name that is lent -/
inductive Ar where
  | va (m : M Vl) | lent (i : Nat)
def args : List Ar → M (List Vl)
  | [] => fun e => .ok [] e
  | .va m :: r => fun e => (m e).then fun x e => match x.d with
    | some d => (args r e).then fun l e => .ok (.v d :: l) e
    | none => .bad
  | .lent i :: r => fun e => match e[i]? with
    | some (some _) => (args r e).then fun l e => (match e[i]? with
      | some (some x) => if x.own then .ok (x :: l) e else .bad
      | _ => .bad)
    | _ => .bad
def puts : List Ar → List Vl → En → Option En
  | [], [], e => some e
  | .va _ :: r, l, e => puts r l e
  | .lent i :: r, x :: l, e => puts r l (e.set i (some x))
  | _, _, _ => none
/-- what was lent to a call that raised is not known any more -/
def kill : List Ar → En → En
  | [], e => e
  | .va _ :: r, e => kill r e
  | .lent i :: r, e => kill r (e.set i none)
/-- where lent arguments stand, and whose they are -/
def lentP : List Ar → List (Nat × Nat)
  | [] => []
  | .va _ :: r => (lentP r).map fun p => (p.1 + 1, p.2)
  | .lent i :: r => (0, i) :: (lentP r).map fun p => (p.1 + 1, p.2)
def eCall (f : F) (as : List Ar) : M Vl := fun e => (args as e).then fun l e => match f l with
  | .ok x outs => (match puts as outs e with
    | some e => .ok x e
    | none => .bad)
  | .ex x => .ex x (kill as e)
  | .bad => .bad

/-! statements -/
def sNil : C := fun e => .nxt e
def sSeq (a b : C) : C := fun e => match a e with
  | .nxt e => b e
  | o => o
def sIf (t : M Bool) (a b : C) : C := fun e => match t e with
  | .ok c e => if c then a e else b e
  | .ex x e => .ex x e
  | .bad => .bad
def sRet (a : M Vl) : C := fun e => match a e with
  | .ok x e => .ret x e
  | .ex x e => .ex x e
  | .bad => .bad
def sDrop (a : M Vl) : C := fun e => match a e with
  | .ok _ e => .nxt e
  | .ex x e => .ex x e
  | .bad => .bad
def sSet (i : Nat) (a : M Vl) : C := fun e => match a e with
  | .ok x e => .nxt (e.set i (some x))
  | .ex x e => .ex x e
  | .bad => .bad
def sTo (g : D → En → Option En) (a : M Vl) : C := fun e => match a e with
  | .ok x e => (match x.d.bind fun d => g d e with
    | some e => .nxt e
    | none => .bad)
  | .ex x e => .ex x e
  | .bad => .bad
/-- a, b = x, y; a, b, c = x, y, z -/
def sPar (i j : Nat) (r : M (List D)) : C := fun e => match r e with
  | .ok [x, y] e => .nxt ((e.set i (some (.v x))).set j (some (.v y)))
  | .ok _ _ => .bad
  | .ex x e => .ex x e
  | .bad => .bad
def sPar3 (i j k : Nat) (r : M (List D)) : C := fun e => match r e with
  | .ok [x, y, z] e => .nxt (((e.set i (some (.v x))).set j (some (.v y))).set k (some (.v z)))
  | .ok _ _ => .bad
  | .ex x e => .ex x e
  | .bad => .bad
/-- name op= value -/
def sAug (i : Nat) (f : Int → Int → Int) (a : M Vl) : C := fun e => match e[i]? with
  | some (some (.v (.int x))) => (match a e with
    | .ok (.v (.int y)) e => .nxt (e.set i (some (.v (.int (f x y)))))
    | .ok _ _ => .bad
    | .ex x e => .ex x e
    | .bad => .bad)
  | _ => .bad
/-- rows[i] += [..], rows a list of one's own lists -/
def sAugIx (k : Nat) (f : N) (m : M Vl) : C := fun e => match e[k]?, f e with
  | some (some (.oo l)), some i => if 0 ≤ i then (match l[i.toNat]? with
    | some r => (match m (e.set k none) with
      | .ok (.o z) e2 => if r.length + z.length ≤ lim then .nxt (e2.set k (some (.oo (l.set i.toNat (r ++ z))))) else .bad
      | .ok _ _ => .bad
      | .ex x e2 => .ex x e2
      | .bad => .bad)
    | none => .bad) else .bad
  | _, _ => .bad
/-- rows.append([..]), rows a list of one's own lists -/
def mAppO (k : Nat) (a : M Vl) : M Vl := fun e => match e[k]? with
  | some (some (.oo _)) => (a e).then fun y e => (match y, e[k]? with
    | .o z, some (some (.oo l)) => if l.length < lim then .ok (.v .non) (e.set k (some (.oo (l ++ [z])))) else .bad
    | _, _ => .bad)
  | _ => .bad
/-- raise X(value) -/
def sRaise (c : String) (a : M Vl) : C := fun e => match a e with
  | .ok x e => (match x.d with
    | some d => .ex ⟨c, [("code", d)]⟩ e
    | none => .bad)
  | .ex x e => .ex x e
  | .bad => .bad
/-- try: b; except (one of cs) as i: s; ns: others that may come -/
def sTry (b : C) (cs ns : List String) (i : Nat) (s : Ex → C) : C := fun e => match b e with
  | .ex x e => if cs.contains x.cls then if i < e.length then (match s x (e.set i none) with
    | .nxt e => .nxt (e.set i none)
    | .brk e => .brk (e.set i none)
    | .cnt e => .cnt (e.set i none)
    | .ret y e => .ret y (e.set i none)
    | _ => .bad) else .bad else if ns.contains x.cls then .ex x e else .bad
  | o => o
/-- e.code in the suite -/
def eFld (x : Ex) (n : String) : M Vl := fun e => match x.fs.lookup n with
  | some d => .ok (.v d) e
  | none => .bad
def forGo (g : D → En → Option En) (b : C) : List D → En → Out
  | [], e => .nxt e
  | d :: l, e => match g d e with
    | none => .bad
    | some e1 => match b e1 with
      | .nxt e2 => forGo g b l e2
      | .cnt e2 => forGo g b l e2
      | .brk e2 => .nxt e2
      | o => o
def sFor (it : M (List D)) (g : D → En → Option En) (b : C) : C := fun e => match it e with
  | .ok l e => forGo g b l e
  | .ex x e => .ex x e
  | .bad => .bad
def whileGo (t : M Bool) (b : C) : Nat → En → Option Out
  | 0, _ => none
  | n + 1, e => match t e with
    | .ok false e => some (.nxt e)
    | .ok true e => (match b e with
      | .nxt e => whileGo t b n e
      | .cnt e => whileGo t b n e
      | .brk e => some (.nxt e)
      | o => some o)
    | .ex x e => some (.ex x e)
    | .bad => some .bad
theorem whileGo_more (t : M Bool) (b : C) : ∀ (n k : Nat) (e : En) (o : Out), whileGo t b n e = some o → whileGo t b (n + k) e = some o
  | 0, _, _, _, h => by simp [whileGo] at h
  | n + 1, k, e, o, h => by
    rw [show n + 1 + k = (n + k) + 1 by omega]
    unfold whileGo at h ⊢
    split <;> rename_i q <;> simp only [q] at h
    · exact h
    · split <;> rename_i q2 <;> simp only [q2] at h
      · exact whileGo_more t b n k _ _ h
      · exact whileGo_more t b n k _ _ h
      · exact h
      · simp_all
    · exact h
    · exact h
open Classical in
noncomputable def sWhile (t : M Bool) (b : C) : C := fun e =>
  if h : ∃ o n, whileGo t b n e = some o then h.choose else .bad
theorem sWhile_eq {t : M Bool} {b : C} {e : En} {o : Out} {n : Nat} (h : whileGo t b n e = some o) : sWhile t b e = o := by
  have hx : ∃ o n, whileGo t b n e = some o := ⟨o, n, h⟩
  unfold sWhile
  rw [dif_pos hx]
  obtain ⟨k, hk⟩ := hx.choose_spec
  have h1 := whileGo_more t b n k e o h
  have h2 := whileGo_more t b k n e _ hk
  rw [Nat.add_comm k n, h1] at h2
  exact (Option.some.inj h2).symm
theorem sWhile_ex {t : M Bool} {b : C} {e : En} (h : sWhile t b e ≠ .bad) : ∃ n, whileGo t b n e = some (sWhile t b e) := by
  by_cases hx : ∃ o n, whileGo t b n e = some o
  · obtain ⟨o, n, hn⟩ := hx
    exact ⟨n, by rw [sWhile_eq hn]; exact hn⟩
  · exact absurd (by unfold sWhile; rw [dif_neg hx]) h

/-- a def's body, its names: how many, which of its parameters are lent -/
def outs : List Nat → En → Option (List Vl)
  | [], _ => some []
  | i :: r, e => match e[i]? with
    | some (some x) => (outs r e).map (x :: ·)
    | _ => none
def runDef (n : Nat) (lent : List Nat) (b : C) : F := fun l => match b (l.map some ++ List.replicate (n - l.length) none) with
  | .nxt e => (match outs lent e with
    | some os => .ok (.v .non) os
    | none => .bad)
  | .ret x e => (match outs lent e with
    | some os => .ok x os
    | none => .bad)
  | .ex x _ => .ex x
  | _ => .bad
end Fx
end

section
set_option Elab.async false
set_option linter.all false
set_option maxRecDepth 100000
set_option maxHeartbeats 4000000
/-! Wa: how plain data lies in an abstract heap; what stays; the readings of plain meanings. -/
namespace Fx
open PySem PySem.Spec PyProof.Rows L2

/-- the lists that are only read -/
abbrev SP' := Addr → Prop

section
variable (K : PySem.W.Frag) (S : SP') (H : Hp)
/-- a list at a that is only read -/
def Ls (K : PySem.W.Frag) (S : SP') (H : Hp) (a : Addr) (vs : List V) : Prop := (S a ∧ H a = some (.lst vs)) ∨ (∃ o, H a = some (.frz o (.lst vs))) ∨
  ∃ (o : Obj) (its : Array Value) (n : Nat), K.lookup a = some o ∧ o.cls = .type "list" ∧ o.dict = none ∧ o.data = .seq its n ∧ its.size ≤ sizeLine ∧ Vals vs its.toList
/-- a tuple at a, known to the object: it has no dict -/
def ExT (H : Hp) (a : Addr) (vs : List V) : Prop := ∃ ob : Obj, H a = some (.frz ob (.tup vs)) ∧ ob.dict = none
mutual
def rep : D → V → Prop
  | .non, v => v = .non
  | .bl b, v => v = .bl b
  | .int i, v => v = .int i
  | .str s, v => v = .str (Str.ofString s)
  | .tup ds, v => ∃ a vs, v = .ref a ∧ ExT H a vs ∧ reps ds vs
  | .lst ds, v => ∃ a vs, v = .ref a ∧ Ls K S H a vs ∧ reps ds vs
def reps : List D → List V → Prop
  | [], vs => vs = []
  | d :: ds, vs => ∃ v r, vs = v :: r ∧ rep d v ∧ reps ds r
end
/-- lists of one's own at these places -/
def rows : List (List D) → List Addr → List V → Prop
  | [], as, vs => as = [] ∧ vs = []
  | l :: ls, as, vs => ∃ b r ws rs, as = b :: r ∧ vs = .ref b :: rs ∧ H b = some (.lst ws) ∧ reps K S H l ws ∧ rows ls r rs
def repV : Vl → List Addr → V → Prop
  | .v d, fp, v => fp = [] ∧ rep K S H d v
  | .o l, fp, v => ∃ a vs, v = .ref a ∧ fp = [a] ∧ H a = some (.lst vs) ∧ reps K S H l vs
  | .oo l, fp, v => ∃ a vs as, v = .ref a ∧ fp = a :: as ∧ H a = some (.lst vs) ∧ rows K S H l as vs
  | .dc _, _, _ => False
  | .rg lo hi, fp, v => fp = [] ∧ ∃ a, v = .ref a ∧ H a = some (.rng lo hi)
/-- what the names hold -/
def envR : En → List Addr → L2.St → Prop
  | [], fp, σ => fp = [] ∧ σ = []
  | none :: e, fp, σ => ∃ s r, σ = s :: r ∧ envR e fp r
  | some x :: e, fp, σ => ∃ v r f1 f2, σ = some v :: r ∧ fp = f1 ++ f2 ∧ repV K S H x f1 v ∧ envR e f2 r
end

/-- may be one's own -/
def Ow : HO → Prop
  | .lst _ => True
  | .dK _ => True
  | .dT _ => True
  | _ => False
/-- a set of places of one's own -/
structure Sep (S : SP') (H : Hp) (fp : List Addr) : Prop where
  nd : fp.Nodup
  ns : ∀ a ∈ fp, ¬ S a
  ow : ∀ a ∈ fp, ∃ o, H a = some o ∧ Ow o
structure Wd (K : PySem.W.Frag) (S : SP') (H : Hp) (e : En) (fp : List Addr) (σ : L2.St) : Prop where
  env : envR K S H e fp σ
  sep : Sep S H fp
  dom : ∀ a, S a → ∃ xs, H a = some (.lst xs)

/-- later: what is not one's own stands -/
structure Ext (S : SP') (H : Hp) (fp : List Addr) (S' : SP') (H' : Hp) (fp' : List Addr) : Prop where
  keep : ∀ a o, H a = some o → a ∉ fp → H' a = some o
  fresh : ∀ a ∈ fp', a ∈ fp ∨ H a = none
  mono : ∀ a, S a → S' a
  sfr : ∀ a, S' a → S a ∨ a ∈ fp ∨ H a = none
theorem Ext.refl (S : SP') (H : Hp) (fp : List Addr) : Ext S H fp S H fp := ⟨fun _ _ h _ => h, fun _ h => .inl h, fun _ h => h, fun _ h => .inl h⟩
section
variable {S S1 S2 : SP'} {H H1 H2 : Hp} {fp fp1 fp2 g : List Addr}
theorem Ext.back (x : Ext S H fp S1 H1 fp1) {a : Addr} (h : H1 a = none) : a ∈ fp ∨ H a = none := by
  by_cases hm : a ∈ fp
  · exact .inl hm
  · cases q : H a with
    | none => exact .inr rfl
    | some o => rw [x.keep a o q hm] at h; cases h
theorem Ext.trans (x : Ext S H fp S1 H1 fp1) (y : Ext S1 H1 fp1 S2 H2 fp2) : Ext S H fp S2 H2 fp2 where
  keep := fun a o h hm => y.keep a o (x.keep a o h hm) fun z => by
    rcases x.fresh a z with q | q
    · exact hm q
    · rw [q] at h; cases h
  fresh := fun a h => by
    rcases y.fresh a h with q | q
    · exact x.fresh a q
    · exact x.back q
  mono := fun a h => y.mono a (x.mono a h)
  sfr := fun a h => by
    rcases y.sfr a h with q | q | q
    · exact x.sfr a q
    · exact .inr (x.fresh a q)
    · exact .inr (x.back q)
theorem Ext.sub (x : Ext S H fp S1 H1 fp1) (h : ∀ a ∈ g, a ∈ fp1) : Ext S H fp S1 H1 g := ⟨x.keep, fun a q => x.fresh a (h a q), x.mono, x.sfr⟩
/-- from a smaller part that one owns -/
theorem Ext.more (x : Ext S H g S1 H1 fp1) (h : ∀ a ∈ g, a ∈ fp) : Ext S H fp S1 H1 fp1 :=
  ⟨fun a o q z => x.keep a o q fun w => z (h a w), fun a q => (x.fresh a q).imp (h a) id, x.mono, fun a q => (x.sfr a q).imp id fun w => w.imp (h a) id⟩
end

/-! what stands through later steps -/
def Stl (S : SP') (a : Addr) : HO → Prop
  | .tup _ => True
  | .frz _ _ => True
  | .rng _ _ => True
  | .lst _ => S a
  | _ => False
structure Stb (S : SP') (H : Hp) (S' : SP') (H' : Hp) : Prop where
  s : ∀ a, S a → S' a
  h : ∀ a o, H a = some o → Stl S a o → H' a = some o
theorem Stb.refl (S : SP') (H : Hp) : Stb S H S H := ⟨fun _ h => h, fun _ _ h _ => h⟩
theorem Stb.trans {S S1 S2 : SP'} {H H1 H2 : Hp} (x : Stb S H S1 H1) (y : Stb S1 H1 S2 H2) : Stb S H S2 H2 :=
  ⟨fun a h => y.s a (x.s a h), fun a o h st => y.h a o (x.h a o h st) (by cases o <;> first | exact st | exact x.s a st | trivial)⟩
theorem Ext.stb {S S1 : SP'} {H H1 : Hp} {fp fp1 : List Addr} (x : Ext S H fp S1 H1 fp1) (sp : Sep S H fp) : Stb S H S1 H1 :=
  ⟨x.mono, fun a o h st => x.keep a o h fun z => by
    obtain ⟨o', h', w⟩ := sp.ow a z
    rw [h] at h'; cases h'
    cases o with
    | lst _ => exact sp.ns a z st
    | _ => first | exact w.elim | exact st.elim⟩
section
variable {K : PySem.W.Frag} {S S1 : SP'} {H H1 : Hp}
theorem SqT.stb {a : Addr} {vs : List V} (x : Stb S H S1 H1) (h : SqT K H a vs) : SqT K H1 a vs := by
  rcases h with (h | ⟨o, h⟩) | h
  · exact .inl (.inl (x.h _ _ h trivial))
  · exact .inl (.inr ⟨o, x.h _ _ h trivial⟩)
  · exact .inr h
theorem ExT.stb {a : Addr} {vs : List V} (x : Stb S H S1 H1) (h : ExT H a vs) : ExT H1 a vs := by
  obtain ⟨ob, h, d⟩ := h
  exact ⟨ob, x.h _ _ h trivial, d⟩
theorem ExT.sq {a : Addr} {vs : List V} (h : ExT H a vs) : SqT K H a vs := by
  obtain ⟨ob, h, d⟩ := h
  exact .inl (.inr ⟨ob, h⟩)
theorem Ls.stb {a : Addr} {vs : List V} (x : Stb S H S1 H1) (h : Ls K S H a vs) : Ls K S1 H1 a vs := by
  rcases h with ⟨h1, h2⟩ | ⟨o, h⟩ | h
  · exact .inl ⟨x.s _ h1, x.h _ _ h2 h1⟩
  · exact .inr (.inl ⟨o, x.h _ _ h trivial⟩)
  · exact .inr (.inr h)
theorem Ls.sq {a : Addr} {vs : List V} (h : Ls K S H a vs) : SqL K H a vs := by
  rcases h with ⟨_, h2⟩ | ⟨o, h⟩ | h
  · exact .inl (.inl h2)
  · exact .inl (.inr ⟨o, h⟩)
  · exact .inr h
theorem Ls.of {a : Addr} {vs : List V} (h : SqL K H a vs) (hs : ∀ xs, H a = some (.lst xs) → S a) : Ls K S H a vs := by
  rcases h with (h | ⟨o, h⟩) | h
  · exact .inl ⟨hs _ h, h⟩
  · exact .inr (.inl ⟨o, h⟩)
  · exact .inr (.inr h)
mutual
theorem rep.stb (x : Stb S H S1 H1) : ∀ (d : D) (v : V), rep K S H d v → rep K S1 H1 d v
  | .non, _, h => by unfold rep at h ⊢; exact h
  | .bl _, _, h => by unfold rep at h ⊢; exact h
  | .int _, _, h => by unfold rep at h ⊢; exact h
  | .str _, _, h => by unfold rep at h ⊢; exact h
  | .tup ds, _, h => by
    unfold rep at h ⊢
    obtain ⟨a, vs, h1, h2, h3⟩ := h
    exact ⟨a, vs, h1, ExT.stb x h2, reps.stb x ds vs h3⟩
  | .lst ds, _, h => by
    unfold rep at h ⊢
    obtain ⟨a, vs, h1, h2, h3⟩ := h
    exact ⟨a, vs, h1, h2.stb x, reps.stb x ds vs h3⟩
theorem reps.stb (x : Stb S H S1 H1) : ∀ (ds : List D) (vs : List V), reps K S H ds vs → reps K S1 H1 ds vs
  | [], _, h => by unfold reps at h ⊢; exact h
  | d :: ds, _, h => by
    unfold reps at h ⊢
    obtain ⟨v, r, h1, h2, h3⟩ := h
    exact ⟨v, r, h1, rep.stb x d v h2, reps.stb x ds r h3⟩
end
theorem rows.stb (x : Stb S H S1 H1) : ∀ (ls : List (List D)) (as : List Addr) (vs : List V), (∀ a ∈ as, H1 a = H a) → rows K S H ls as vs → rows K S1 H1 ls as vs
  | [], _, _, _, h => by unfold rows at h ⊢; exact h
  | l :: ls, as, vs, k, h => by
    unfold rows at h ⊢
    obtain ⟨b, r, ws, rs, h1, h2, h3, h4, h5⟩ := h
    subst h1
    exact ⟨b, r, ws, rs, rfl, h2, by rw [k b List.mem_cons_self]; exact h3, reps.stb x l ws h4, rows.stb x ls r rs (fun a q => k a (List.mem_cons_of_mem _ q)) h5⟩
theorem repV.stb (x : Stb S H S1 H1) {y : Vl} {fp : List Addr} {v : V} (k : ∀ a ∈ fp, H1 a = H a) (h : repV K S H y fp v) : repV K S1 H1 y fp v := by
  cases y with
  | v d => exact ⟨h.1, rep.stb x d v h.2⟩
  | o l =>
    obtain ⟨a, vs, h1, h2, h3, h4⟩ := h
    subst h2
    exact ⟨a, vs, h1, rfl, by rw [k a List.mem_cons_self]; exact h3, reps.stb x l vs h4⟩
  | oo l =>
    obtain ⟨a, vs, as, h1, h2, h3, h4⟩ := h
    subst h2
    exact ⟨a, vs, as, h1, rfl, by rw [k a List.mem_cons_self]; exact h3, rows.stb x l as vs (fun b q => k b (List.mem_cons_of_mem _ q)) h4⟩
  | dc _ => exact h.elim
  | rg lo hi =>
    obtain ⟨h1, a, h2, h3⟩ := h
    exact ⟨h1, a, h2, x.h a _ h3 trivial⟩
theorem envR.stb (x : Stb S H S1 H1) : ∀ (e : En) (fp : List Addr) (σ : L2.St), (∀ a ∈ fp, H1 a = H a) → envR K S H e fp σ → envR K S1 H1 e fp σ
  | [], _, _, _, h => by unfold envR at h ⊢; exact h
  | none :: e, fp, _, k, h => by
    unfold envR at h ⊢
    obtain ⟨s, r, h1, h2⟩ := h
    exact ⟨s, r, h1, envR.stb x e fp r k h2⟩
  | some y :: e, fp, _, k, h => by
    unfold envR at h ⊢
    obtain ⟨v, r, f1, f2, h1, h2, h3, h4⟩ := h
    subst h2
    exact ⟨v, r, f1, f2, h1, rfl, h3.stb x fun a q => k a (List.mem_append_left _ q), envR.stb x e f2 r (fun a q => k a (List.mem_append_right _ q)) h4⟩
theorem reps.length : ∀ {ds : List D} {vs : List V}, reps K S H ds vs → ds.length = vs.length
  | [], _, h => by unfold reps at h; subst h; rfl
  | d :: ds, _, h => by
    unfold reps at h
    obtain ⟨v, r, h1, h2, h3⟩ := h
    subst h1
    rw [List.length_cons, List.length_cons, reps.length h3]
theorem reps.get : ∀ {ds : List D} {vs : List V} {i : Nat} {d : D}, reps K S H ds vs → ds[i]? = some d → ∃ v, vs[i]? = some v ∧ rep K S H d v
  | [], _, _, _, _, e => by simp at e
  | d :: ds, _, 0, _, h, e => by
    unfold reps at h
    obtain ⟨v, r, h1, h2, h3⟩ := h
    simp at e
    subst h1 e
    exact ⟨v, rfl, h2⟩
  | d :: ds, _, i + 1, _, h, e => by
    unfold reps at h
    obtain ⟨v, r, h1, h2, h3⟩ := h
    subst h1
    exact reps.get (i := i) h3 (by simpa using e)
theorem reps.app : ∀ {ds es : List D} {vs ws : List V}, reps K S H ds vs → reps K S H es ws → reps K S H (ds ++ es) (vs ++ ws)
  | [], _, _, _, h, h' => by unfold reps at h; subst h; exact h'
  | d :: ds, _, _, _, h, h' => by
    unfold reps at h
    obtain ⟨v, r, h1, h2, h3⟩ := h
    subst h1
    show reps K S H (d :: (ds ++ _)) _
    unfold reps
    exact ⟨v, _, rfl, h2, reps.app h3 h'⟩
theorem reps.take : ∀ {ds : List D} {vs : List V} (n : Nat), reps K S H ds vs → reps K S H (ds.take n) (vs.take n)
  | _, _, 0, _ => by simp [reps]
  | [], _, n + 1, h => by unfold reps at h; subst h; simp [reps]
  | d :: ds, _, n + 1, h => by
    unfold reps at h
    obtain ⟨v, r, h1, h2, h3⟩ := h
    subst h1
    simp only [List.take_succ_cons]
    unfold reps
    exact ⟨v, _, rfl, h2, reps.take n h3⟩
theorem reps.drop : ∀ {ds : List D} {vs : List V} (n : Nat), reps K S H ds vs → reps K S H (ds.drop n) (vs.drop n)
  | _, _, 0, h => h
  | [], _, n + 1, h => by unfold reps at h; subst h; simp [reps]
  | d :: ds, _, n + 1, h => by
    unfold reps at h
    obtain ⟨v, r, h1, h2, h3⟩ := h
    subst h1
    exact reps.drop n h3
theorem reps.set : ∀ {ds : List D} {vs : List V} (i : Nat) {d : D} {v : V}, reps K S H ds vs → rep K S H d v → reps K S H (ds.set i d) (vs.set i v)
  | [], _, _, _, _, h, _ => by unfold reps at h; subst h; simp [reps]
  | d :: ds, _, 0, _, _, h, h' => by
    unfold reps at h
    obtain ⟨v, r, h1, h2, h3⟩ := h
    subst h1
    simp only [List.set_cons_zero]
    unfold reps
    exact ⟨_, _, rfl, h', h3⟩
  | d :: ds, _, i + 1, _, _, h, h' => by
    unfold reps at h
    obtain ⟨v, r, h1, h2, h3⟩ := h
    subst h1
    simp only [List.set_cons_succ]
    unfold reps
    exact ⟨_, _, rfl, h2, reps.set i h3 h'⟩
theorem reps.rev : ∀ {ds : List D} {vs : List V}, reps K S H ds vs → reps K S H ds.reverse vs.reverse
  | [], _, h => by unfold reps at h; subst h; simp [reps]
  | d :: ds, _, h => by
    unfold reps at h
    obtain ⟨v, r, h1, h2, h3⟩ := h
    subst h1
    rw [List.reverse_cons, List.reverse_cons]
    exact reps.app (reps.rev h3) (by unfold reps; exact ⟨v, [], rfl, h2, by simp [reps]⟩)
theorem reps.nil : reps K S H [] [] := by simp [reps]
theorem reps.cons {d : D} {ds : List D} {v : V} {vs : List V} (h : rep K S H d v) (h' : reps K S H ds vs) : reps K S H (d :: ds) (v :: vs) := by unfold reps; exact ⟨v, vs, rfl, h, h'⟩
theorem reps.erase : ∀ {ds : List D} {vs : List V} (i : Nat), reps K S H ds vs → reps K S H (ds.eraseIdx i) (vs.eraseIdx i)
  | [], _, _, h => by unfold reps at h; subst h; simp [reps]
  | d :: ds, _, 0, h => by
    unfold reps at h
    obtain ⟨v, r, h1, h2, h3⟩ := h
    subst h1
    exact h3
  | d :: ds, _, i + 1, h => by
    unfold reps at h
    obtain ⟨v, r, h1, h2, h3⟩ := h
    subst h1
    exact reps.cons h2 (reps.erase i h3)
theorem reps.rep : ∀ {ds : List D} {vs : List V}, reps K S H ds vs → ∀ k : Nat, reps K S H (List.replicate k ds).flatten (List.replicate k vs).flatten
  | _, _, h, 0 => by simp [reps]
  | _, _, h, k + 1 => by
    rw [List.replicate_succ, List.replicate_succ, List.flatten_cons, List.flatten_cons]
    exact reps.app h (reps.rep h k)
theorem envR.len : ∀ {e : En} {fp : List Addr} {σ : L2.St}, envR K S H e fp σ → e.length = σ.length
  | [], _, _, h => by unfold envR at h; rw [h.2]; rfl
  | none :: e, _, _, h => by
    unfold envR at h
    obtain ⟨s, r, h1, h2⟩ := h
    subst h1
    simp [envR.len h2]
  | some y :: e, _, _, h => by
    unfold envR at h
    obtain ⟨v, r, f1, f2, h1, h2, h3, h4⟩ := h
    subst h1
    simp [envR.len h4]
end
end Fx
end

section
set_option Elab.async false
set_option linter.all false
set_option maxRecDepth 100000
set_option maxHeartbeats 4000000
/-! Wb: expressions. -/
namespace Fx
open PySem PySem.Spec PyProof.Rows L2

/-- an error's fields -/
def fldR (K : PySem.W.Frag) (S : SP') (H : Hp) : List (String × D) → List (Str × V) → Prop
  | [], fs => fs = []
  | (n, d) :: r, fs => ∃ v q, fs = (Str.ofString n, v) :: q ∧ rep K S H d v ∧ fldR K S H r q
def exR (K : PySem.W.Frag) (mg : Str → Option Value) (S : SP') (H : Hp) (x : Ex) (c : Value) (dd : Option Addr) : Prop :=
  ∃ C d fs, mg (Str.ofString x.cls) = some (.ref C) ∧ c = .ref C ∧ dd = some d ∧ H d = some (.xd fs) ∧ fldR K S H x.fs fs

/-- what is wanted behind a plain meaning -/
def Rs.post {α : Type} (r : Rs α) (P : α → En → Prop) (E : Ex → En → Prop) : Prop :=
  match r with
  | .ok a e => P a e
  | .ex x e => E x e
  | .bad => False
/-- the wish about an error -/
def exW (K : PySem.W.Frag) (mg : Str → Option Value) (W : WX) (S : SP') (H : Hp) (fp : List Addr) (σ : L2.St) (x : Ex) (e : En) : Prop :=
  ∀ S' H' fp' c dd, Ext S H fp S' H' fp' → Wd K S' H' e fp' σ → exR K mg S' H' x c dd → W c dd σ H'
/-- the reading of a plain meaning -/
def TR {α β : Type} (K : PySem.W.Frag) (mg : Str → Option Value) (W : WX) (R : SP' → Hp → α → List Addr → β → Prop) (m : M α) : L2.St → Hp → (β → Hp → Prop) → Prop := fun σ H Q =>
  ∃ S e fp, Wd K S H e fp σ ∧ (m e).post
    (fun x e' => ∀ S' H' fp' fx v, Ext S H fp S' H' (fx ++ fp') → Wd K S' H' e' fp' σ → Sep S' H' (fx ++ fp') → R S' H' x fx v → Q v H')
    (fun x e' => exW K mg W S H fp σ x e')

def RB (S : SP') (H : Hp) (x : Bool) (fx : List Addr) (v : Bool) : Prop := fx = [] ∧ v = x
def RL (K : PySem.W.Frag) (S : SP') (H : Hp) (ds : List D) (fx : List Addr) (vs : List V) : Prop := fx = [] ∧ reps K S H ds vs
/-- a value that is only looked at -/
def RP (K : PySem.W.Frag) (S : SP') (H : Hp) : Vl → List Addr → V → Prop
  | .v (.lst l), fx, v => fx = [] ∧ ∃ a vs, v = .ref a ∧ SqL K H a vs ∧ reps K S H l vs
  | x, fx, v => repV K S H x fx v
def RO (S : SP') (H : Hp) (x : Option Int) (fx : List Addr) (v : Option Int) : Prop := fx = [] ∧ v = x
structure DE (X : Cx) (W : WX) (e : Expr) (m : M Vl) : Prop where
  p : PE X e (TR X.K X.mg W (repV X.K) m)
structure DP (X : Cx) (W : WX) (e : Expr) (m : M Vl) : Prop where
  p : PE X e (TR X.K X.mg W (RP X.K) m)
structure DT (X : Cx) (W : WX) (e : Expr) (m : M Bool) : Prop where
  p : PT X e (TR X.K X.mg W RB m)
structure DA (X : Cx) (W : WX) (es : List Expr) (m : M (List D)) : Prop where
  p : PA X es (TR X.K X.mg W (RL X.K) m)
structure DO (X : Cx) (W : WX) (e : Option Expr) (m : M (Option Int)) : Prop where
  p : PO X e (TR X.K X.mg W RO m)

theorem PEm {X : Cx} {e : Expr} {t t' : TE} (h : PE X e t) (k : ∀ σ H Q, t' σ H Q → t σ H Q) : PE X e t' := ⟨fun pins s σ H Q I q => h.run pins s σ H Q I (k σ H Q q)⟩
theorem PTm {X : Cx} {e : Expr} {t t' : TT} (h : PT X e t) (k : ∀ σ H Q, t' σ H Q → t σ H Q) : PT X e t' := ⟨fun pins s σ H Q I q => h.run pins s σ H Q I (k σ H Q q)⟩
theorem PAm {X : Cx} {e : List Expr} {t t' : TA} (h : PA X e t) (k : ∀ σ H Q, t' σ H Q → t σ H Q) : PA X e t' := ⟨fun pos pins s σ H Q I q => h.run pos pins s σ H Q I (k σ H Q q)⟩

section
variable {K : PySem.W.Frag} {mg : Str → Option Value} {W : WX} {S S1 S2 : SP'} {H H1 H2 : Hp} {e e1 : En} {fp fp1 fp2 fx fy : List Addr} {σ : L2.St}
theorem Sep.app1 (h : Sep S H (fx ++ fp)) : Sep S H fx := ⟨(List.nodup_append.mp h.nd).1, fun a q => h.ns a (List.mem_append_left _ q), fun a q => h.ow a (List.mem_append_left _ q)⟩
theorem Sep.app2 (h : Sep S H (fx ++ fp)) : Sep S H fp := ⟨(List.nodup_append.mp h.nd).2.1, fun a q => h.ns a (List.mem_append_right _ q), fun a q => h.ow a (List.mem_append_right _ q)⟩
theorem Sep.apart (h : Sep S H (fx ++ fp)) {a : Addr} (p : a ∈ fx) (q : a ∈ fp) : False := (List.nodup_append.mp h.nd).2.2 a p a q rfl
theorem Sep.nil : Sep S H [] := ⟨List.nodup_nil, (fun _ h => nomatch h), (fun _ h => nomatch h)⟩
/-- what waits while another part runs -/
theorem Sep.wait (h : Sep S1 H1 (fx ++ fp1)) (x : Ext S1 H1 fp1 S2 H2 fp2) (h2 : Sep S2 H2 fp2) : Sep S2 H2 (fx ++ fp2) ∧ ∀ a ∈ fx, H2 a = H1 a := by
  have st : ∀ a ∈ fx, H2 a = H1 a := fun a q => by
    obtain ⟨o, ho, _⟩ := h.ow a (List.mem_append_left _ q)
    rw [ho]
    exact x.keep a o ho fun z => h.apart q z
  refine ⟨⟨List.nodup_append.mpr ⟨h.app1.nd, h2.nd, fun a p b q e => ?_⟩, fun a q z => ?_, fun a q => ?_⟩, st⟩
  · subst e
    rcases x.fresh a q with r | r
    · exact h.apart p r
    · obtain ⟨o, ho, _⟩ := h.ow a (List.mem_append_left _ p)
      rw [r] at ho; cases ho
  · rcases List.mem_append.mp q with q | q
    · rcases x.sfr a z with r | r | r
      · exact h.ns a (List.mem_append_left _ q) r
      · exact h.apart q r
      · obtain ⟨o, ho, _⟩ := h.ow a (List.mem_append_left _ q)
        rw [r] at ho; cases ho
    · exact h2.ns a q z
  · rcases List.mem_append.mp q with q | q
    · obtain ⟨o, ho, w⟩ := h.ow a (List.mem_append_left _ q)
      exact ⟨o, (st a q).trans ho, w⟩
    · exact h2.ow a q
/-- a further step behind a first one, with what waits -/
theorem Ext.wait (x : Ext S H fp S1 H1 (fx ++ fp1)) (y : Ext S1 H1 fp1 S2 H2 fp2) : Ext S H fp S2 H2 (fx ++ fp2) := by
  have z := x.trans (y.more fun a q => List.mem_append_right fx q)
  refine ⟨z.keep, fun a q => ?_, z.mono, z.sfr⟩
  rcases List.mem_append.mp q with q | q
  · exact x.fresh a (List.mem_append_left _ q)
  · exact z.fresh a q
theorem Ext.drop (x : Ext S H fp S1 H1 (fx ++ fp1)) : Ext S H fp S1 H1 fp1 := x.sub fun a q => List.mem_append_right _ q

theorem TR.mono {α β : Type} {R R' : SP' → Hp → α → List Addr → β → Prop} {m : M α} (k : ∀ S H x fx v, R S H x fx v → R' S H x fx v) {Q : β → Hp → Prop} (h : TR K mg W R' m σ H Q) : TR K mg W R m σ H Q := by
  obtain ⟨S, e, fp, wd, p⟩ := h
  refine ⟨S, e, fp, wd, ?_⟩
  cases q : m e with
  | ok x e' => rw [q] at p; exact fun S' H' fp' fx v a b c d => p S' H' fp' fx v a b c (k _ _ _ _ _ d)
  | ex x e' => rw [q] at p; exact p
  | bad => rw [q] at p; exact p
/-- one part, then what is made of it -/
theorem TR.bind {α β γ δ : Type} {R : SP' → Hp → α → List Addr → β → Prop} {R' : SP' → Hp → γ → List Addr → δ → Prop} {m : M α} {k : α → En → Rs γ} {Q : δ → Hp → Prop} {Q1 : β → Hp → Prop}
    (h : TR K mg W R' (fun e => (m e).then k) σ H Q)
    (f : ∀ S e fp S1 H1 e1 fp1 fx x v, Wd K S H e fp σ → Ext S H fp S1 H1 (fx ++ fp1) → Wd K S1 H1 e1 fp1 σ → Sep S1 H1 (fx ++ fp1) → R S1 H1 x fx v →
      (k x e1).post (fun y e' => ∀ S' H' fp' fy u, Ext S H fp S' H' (fy ++ fp') → Wd K S' H' e' fp' σ → Sep S' H' (fy ++ fp') → R' S' H' y fy u → Q u H') (fun x e' => exW K mg W S H fp σ x e') → Q1 v H1) :
    TR K mg W R m σ H Q1 := by
  obtain ⟨S, e, fp, wd, p⟩ := h
  refine ⟨S, e, fp, wd, ?_⟩
  cases q : m e with
  | ok x e' =>
    simp only [q, Rs.then] at p
    exact fun S' H' fp' fx v a b c d => f S e fp S' H' e' fp' fx x v wd a b c d p
  | ex x e' => simp only [q, Rs.then] at p; exact p
  | bad => simp only [q, Rs.then] at p; exact p
theorem exW.more {S H fp S1 H1 fp1 x e} (h : exW K mg W S H fp σ x e) (y : Ext S H fp S1 H1 fp1) : exW K mg W S1 H1 fp1 σ x e := fun S' H' fp' c dd a b d => h S' H' fp' c dd (y.trans a) b d
/-- the second part, while the first waits -/
theorem TR.next {α β γ δ : Type} {R : SP' → Hp → α → List Addr → β → Prop} {R' : SP' → Hp → γ → List Addr → δ → Prop} {m : M α} {k : α → En → Rs γ} {Q : δ → Hp → Prop} {Q1 : β → Hp → Prop}
    (wd : Wd K S1 H1 e1 fp1 σ) (ext : Ext S H fp S1 H1 (fx ++ fp1)) (sep : Sep S1 H1 (fx ++ fp1))
    (h : ((m e1).then k).post (fun y e' => ∀ S' H' fp' fy u, Ext S H fp S' H' (fy ++ fp') → Wd K S' H' e' fp' σ → Sep S' H' (fy ++ fp') → R' S' H' y fy u → Q u H') (fun x e' => exW K mg W S H fp σ x e'))
    (f : ∀ S2 H2 e2 fp2 fy y v, Ext S H fp S2 H2 (fx ++ (fy ++ fp2)) → Stb S1 H1 S2 H2 → (∀ a ∈ fx, H2 a = H1 a) → Wd K S2 H2 e2 fp2 σ → Sep S2 H2 (fx ++ (fy ++ fp2)) → R S2 H2 y fy v →
      (k y e2).post (fun y e' => ∀ S' H' fp' fy u, Ext S H fp S' H' (fy ++ fp') → Wd K S' H' e' fp' σ → Sep S' H' (fy ++ fp') → R' S' H' y fy u → Q u H') (fun x e' => exW K mg W S H fp σ x e') → Q1 v H2) :
    TR K mg W R m σ H1 Q1 := by
  refine ⟨S1, e1, fp1, wd, ?_⟩
  cases q : m e1 with
  | ok x e' =>
    simp only [q, Rs.then] at h
    intro S' H' fp' fy v a b c d
    obtain ⟨s1, s2⟩ := sep.wait a c
    exact f S' H' e' fp' fy x v (ext.wait a) (a.stb sep.app2) s2 b s1 d h
  | ex x e' =>
    simp only [q, Rs.then] at h
    exact h.more ext.drop
  | bad => simp only [q, Rs.then] at h; exact h
end

/-! ### operators -/
/-- f says what a two-place rule r gives -/
def Op2 (K : PySem.W.Frag) (RX RY : SP' → Hp → Vl → List Addr → V → Prop) (f : Vl → Vl → Option Vl) (r : R2) : Prop :=
  ∀ (S : SP') (H : Hp) (x y z : Vl) (fx fy : List Addr) (u v : V) (Q : VK), f x y = some z → (∀ a, S a → ∃ xs, H a = some (.lst xs)) → Sep S H (fx ++ fy) → RX S H x fx u → RY S H y fy v →
    (∀ H' fz w, (∀ a o, H a = some o → H' a = some o) → (∀ a ∈ fz, H a = none) → Sep S H' fz → repV K S H' z fz w → Q w H') → r u v H Q
def Op1 (K : PySem.W.Frag) (RX : SP' → Hp → Vl → List Addr → V → Prop) (f : Vl → Option Vl) (r : V → Hp → VK → Prop) : Prop :=
  ∀ (S : SP') (H : Hp) (x z : Vl) (fx : List Addr) (u : V) (Q : VK), f x = some z → (∀ a, S a → ∃ xs, H a = some (.lst xs)) → Sep S H fx → RX S H x fx u →
    (∀ H' fz w, (∀ a o, H a = some o → H' a = some o) → (∀ a ∈ fz, H a = none) → Sep S H' fz → repV K S H' z fz w → Q w H') → r u H Q

section
variable {K : PySem.W.Frag} {S S1 : SP'} {H H1 H' : Hp} {e : En} {fp fp1 fx fz : List Addr} {σ : L2.St}
/-- new things beside -/
theorem Ext.grow (x : Ext S H fp S1 H1 fp1) (k : ∀ a o, H1 a = some o → H' a = some o) (f : ∀ a ∈ fz, H1 a = none) : Ext S H fp S1 H' (fz ++ fp1) where
  keep := fun a o h hm => k a o (x.keep a o h hm)
  fresh := fun a q => by
    rcases List.mem_append.mp q with q | q
    · exact x.back (f a q)
    · exact x.fresh a q
  mono := x.mono
  sfr := x.sfr
theorem Stb.grow (k : ∀ a o, H a = some o → H' a = some o) : Stb S H S H' := ⟨fun _ h => h, fun a o h _ => k a o h⟩
theorem Wd.grow (wd : Wd K S H e fp σ) (k : ∀ a o, H a = some o → H' a = some o) : Wd K S H' e fp σ := by
  have eq : ∀ a ∈ fp, H' a = H a := fun a q => by
    obtain ⟨o, ho, _⟩ := wd.sep.ow a q
    rw [ho]; exact k a o ho
  refine ⟨envR.stb (Stb.grow k) e fp σ eq wd.env, ⟨wd.sep.nd, wd.sep.ns, fun a q => ?_⟩, fun a q => ?_⟩
  · obtain ⟨o, ho, w⟩ := wd.sep.ow a q
    exact ⟨o, k a o ho, w⟩
  · obtain ⟨xs, h⟩ := wd.dom a q
    exact ⟨xs, k a _ h⟩
theorem Sep.grow (sp : Sep S H fp) (sz : Sep S H' fz) (k : ∀ a o, H a = some o → H' a = some o) (f : ∀ a ∈ fz, H a = none) : Sep S H' (fz ++ fp) where
  nd := List.nodup_append.mpr ⟨sz.nd, sp.nd, fun a p b q e => by
    subst e
    obtain ⟨o, ho, _⟩ := sp.ow a q
    rw [f a p] at ho; cases ho⟩
  ns := fun a q => by
    rcases List.mem_append.mp q with q | q
    · exact sz.ns a q
    · exact sp.ns a q
  ow := fun a q => by
    rcases List.mem_append.mp q with q | q
    · exact sz.ow a q
    · obtain ⟨o, ho, w⟩ := sp.ow a q
      exact ⟨o, k a o ho, w⟩
end
def Rpv (K : PySem.W.Frag) := repV K
/-- kinds of values that wait -/
def Wt (R : SP' → Hp → Vl → List Addr → V → Prop) : Prop := ∀ S H S1 H1 x fx v, Stb S H S1 H1 → (∀ a ∈ fx, H1 a = H a) → R S H x fx v → R S1 H1 x fx v
theorem wt_rep (K : PySem.W.Frag) : Wt (repV K) := fun _ _ _ _ _ _ _ x k h => h.stb x k
section
variable {X : Cx} {W : WX} {a b c : Expr} {pos : Pos} {m n o : M Vl} {RX RY : SP' → Hp → Vl → List Addr → V → Prop}
theorem op2_tr {f : Vl → Vl → Option Vl} {r : R2} (ok : Op2 X.K RX RY f r) (wt : Wt RX) {σ : L2.St} {H : Hp} {Q : VK} (h : TR X.K X.mg W (repV X.K) (e2 f m n) σ H Q) :
    tOp r (TR X.K X.mg W RX m) (TR X.K X.mg W RY n) σ H Q := by
  refine TR.bind (k := fun x e => (n e).then fun y e => lift (f x y) e) h fun S e fp S1 H1 e1 fp1 fx x v wd ext wd1 sep1 rx p => ?_
  refine TR.next (k := fun y e => lift (f x y) e) wd1 ext sep1 p fun S2 H2 e2 fp2 fy y u ext2 st keep wd2 sep2 ry p2 => ?_
  cases q : f x y with
  | none => rw [q] at p2; exact p2.elim
  | some z =>
    rw [q] at p2
    have sxy : Sep S2 H2 (fx ++ fy) := by
      have h := sep2
      rw [← List.append_assoc] at h
      exact h.app1
    refine ok S2 H2 x y z fx fy v u Q q wd2.dom sxy (wt _ _ _ _ _ _ _ st keep rx) ry fun H' fz w k fr sz rz => ?_
    have ext3 : Ext S H fp S2 H2 fp2 := (ext2.drop).drop
    exact p2 S2 H' fp2 fz w (ext3.grow k fr) (wd2.grow k) (wd2.sep.grow sz k fr) rz
theorem op1_tr {f : Vl → Option Vl} {r : V → Hp → VK → Prop} (ok : Op1 X.K RX f r) {σ : L2.St} {H : Hp} {Q : VK} (h : TR X.K X.mg W (repV X.K) (e1 f m) σ H Q) :
    tUn r (TR X.K X.mg W RX m) σ H Q := by
  refine TR.bind (k := fun x e => lift (f x) e) h fun S e fp S1 H1 e1 fp1 fx x v wd ext wd1 sep1 rx p => ?_
  cases q : f x with
  | none => rw [q] at p; exact p.elim
  | some z =>
    rw [q] at p
    refine ok S1 H1 x z fx v Q q wd1.dom sep1.app1 rx fun H' fz w k fr sz rz => ?_
    exact p S1 H' fp1 fz w (ext.drop.grow k fr) (wd1.grow k) (wd1.sep.grow sz k fr) rz
theorem de_op {op : Operator} {f : Vl → Vl → Option Vl} {r : R2} (ho : OpR X (binaryOp op) r) (ok : Op2 X.K (repV X.K) (repV X.K) f r) (ha : DE X W a m) (hb : DE X W b n) : DE X W (.BinOp a op b pos) (e2 f m n) :=
  ⟨PEm (pe_op ho ha.p hb.p) fun σ H Q h => op2_tr ok (wt_rep _) h⟩
theorem de_un {op : UnaryOp} {f : Vl → Option Vl} {r : V → Hp → VK → Prop} (ho : UnR X (unaryOp op) r) (ok : Op1 X.K (repV X.K) f r) (ha : DE X W a m) : DE X W (.UnaryOp op a pos) (e1 f m) :=
  ⟨PEm (pe_un ho ha.p) fun σ H Q h => op1_tr ok h⟩
theorem de_dp (h : DE X W a m) : DP X W a m := ⟨PEm h.p fun σ H Q => TR.mono fun S H x fx v r => by
  unfold RP
  split
  · obtain ⟨h1, h2⟩ := r
    unfold rep at h2
    obtain ⟨a, vs, e, h3, h4⟩ := h2
    exact ⟨h1, a, vs, e, h3.sq, h4⟩
  · exact r⟩
end
end Fx
end

section
set_option Elab.async false
set_option linter.all false
set_option maxRecDepth 100000
set_option maxHeartbeats 4000000
/-! Wc: the operators one by one. -/
namespace Fx
open PySem PySem.Spec PyProof.Rows L2

/-! ### equality -/
mutual
def D.py : D → PyData
  | .non => .none
  | .bl b => .bool b
  | .int i => .int i
  | .str s => .str (Str.ofString s)
  | .tup l => .tuple (D.pys l)
  | .lst l => .list (D.pys l)
def D.pys : List D → List PyData
  | [] => []
  | d :: l => D.py d :: D.pys l
end
mutual
theorem py_plain : ∀ d : D, d.py.plain = true
  | .non => rfl
  | .bl _ => rfl
  | .int _ => rfl
  | .str _ => rfl
  | .tup l => by simp only [D.py, PyData.plain]; exact pys_plain l
  | .lst l => by simp only [D.py, PyData.plain]; exact pys_plain l
theorem pys_plain : ∀ l : List D, PyData.plainAll (D.pys l) = true
  | [] => rfl
  | d :: l => by simp only [D.pys, PyData.plainAll, py_plain d, pys_plain l, Bool.and_self]
end
mutual
theorem py_dep : ∀ d : D, d.py.depth = d.dep
  | .non => rfl
  | .bl _ => rfl
  | .int _ => rfl
  | .str _ => rfl
  | .tup l => by simp only [D.py, PyData.depth, D.dep, pys_dep l]
  | .lst l => by simp only [D.py, PyData.depth, D.dep, pys_dep l]
theorem pys_dep : ∀ l : List D, PyData.depthAll (D.pys l) = D.deps l
  | [] => rfl
  | d :: l => by simp only [D.pys, PyData.depthAll, D.deps, py_dep d, pys_dep l]
end
theorem ofS_inj {a b : String} (h : Str.ofString a = Str.ofString b) : a = b := by
  rw [Str.ofString_eq_toList, Str.ofString_eq_toList] at h
  have h1 : (a.toList.map Char.toNat).toArray = (b.toList.map Char.toNat).toArray := Str.mk.inj h
  have h2 : a.toList.map Char.toNat = b.toList.map Char.toNat := by simpa using congrArg Array.toList h1
  have inj : ∀ c d : Char, c.toNat = d.toNat → c = d := fun c d e => Char.ext (UInt32.toNat_inj.mp e)
  have h3 : a.toList = b.toList := by
    have key : ∀ l m : List Char, l.map Char.toNat = m.map Char.toNat → l = m := by
      intro l
      induction l with
      | nil => intro m e; cases m with
        | nil => rfl
        | cons _ _ => simp at e
      | cons c l ih => intro m e; cases m with
        | nil => simp at e
        | cons d m =>
          simp only [List.map_cons, List.cons.injEq] at e
          rw [inj c d e.1, ih m e.2]
    exact key _ _ h2
  exact String.toList_inj.mp h3
theorem ofS_eq (a b : String) : (Str.ofString a == Str.ofString b) = decide (a = b) := by
  by_cases e : a = b
  · subst e; simp
  · have : ¬ Str.ofString a = Str.ofString b := fun z => e (ofS_inj z)
    rw [decide_eq_false e]
    simpa using this
mutual
theorem py_eq : ∀ a b : D, PyData.eqv a.py b.py = D.eq a b
  | .non, b => by cases b <;> rfl
  | .bl x, b => by cases b <;> first | rfl | (simp only [D.py, PyData.eqv, D.eq, b2i]; exact (Bool.beq_eq_decide_eq _ _))
  | .int x, b => by cases b <;> first | rfl | (simp only [D.py, PyData.eqv, D.eq, b2i]; exact (Bool.beq_eq_decide_eq _ _))
  | .str x, b => by cases b <;> first | rfl | (simp only [D.py, PyData.eqv, D.eq]; exact ofS_eq _ _)
  | .tup l, b => by cases b <;> first | rfl | (simp only [D.py, PyData.eqv, D.eq]; exact pys_eq l _)
  | .lst l, b => by cases b <;> first | rfl | (simp only [D.py, PyData.eqv, D.eq]; exact pys_eq l _)
theorem pys_eq : ∀ l m : List D, PyData.eqvAll (D.pys l) (D.pys m) = D.eqs l m
  | [], m => by cases m <;> rfl
  | a :: l, m => by
    cases m with
    | nil => rfl
    | cons b m => simp only [D.pys, PyData.eqvAll, D.eqs, py_eq a b, pys_eq l m]
end
section
variable {K : PySem.W.Frag} {S : SP'} {H : Hp}
mutual
theorem rep.dp : ∀ {d : D} {v : V}, rep K S H d v → Dp K H v d.py
  | .non, _, h => by unfold rep at h; subst h; exact .non
  | .bl b, _, h => by unfold rep at h; subst h; exact .bl b
  | .int b, _, h => by unfold rep at h; subst h; exact .int b
  | .str b, _, h => by unfold rep at h; subst h; exact .str _
  | .tup ds, _, h => by
    unfold rep at h
    obtain ⟨a, vs, h1, h2, h3⟩ := h
    subst h1
    simp only [D.py]
    exact .tup h2.sq (reps.dp h3)
  | .lst ds, _, h => by
    unfold rep at h
    obtain ⟨a, vs, h1, h2, h3⟩ := h
    subst h1
    simp only [D.py]
    exact .lst h2.sq (reps.dp h3)
theorem reps.dp : ∀ {ds : List D} {vs : List V}, reps K S H ds vs → DpAll K H vs (D.pys ds)
  | [], _, h => by unfold reps at h; subst h; exact .nil
  | d :: ds, _, h => by
    unfold reps at h
    obtain ⟨v, r, h1, h2, h3⟩ := h
    subst h1
    exact .cons (rep.dp h2) (reps.dp h3)
end
theorem rows.dp : ∀ {ls : List (List D)} {as : List Addr} {vs : List V}, rows K S H ls as vs → DpAll K H vs (D.pys (ls.map .lst))
  | [], _, _, h => by unfold rows at h; rw [h.2]; exact .nil
  | l :: ls, _, _, h => by
    unfold rows at h
    obtain ⟨b, r, ws, rs, h1, h2, h3, h4, h5⟩ := h
    subst h2
    exact .cons (by simp only [D.py]; exact .lst (.inl (.inl h3)) h4.dp) (rows.dp h5)
theorem RP.dp {x : Vl} {d : D} {fx : List Addr} {v : V} (e : x.d = some d) (h : RP K S H x fx v) : Dp K H v d.py := by
  cases x with
  | v d' =>
    simp only [Vl.d, Option.some.injEq] at e
    subst e
    cases d' with
    | lst l =>
      obtain ⟨_, a, vs, h1, h2, h3⟩ := h
      subst h1
      simp only [D.py]
      exact .lst h2 h3.dp
    | _ => exact rep.dp h.2
  | o l =>
    simp only [Vl.d, Option.some.injEq] at e
    subst e
    obtain ⟨a, vs, h1, h2, h3, h4⟩ := h
    subst h1
    simp only [D.py]
    exact .lst (.inl (.inl h3)) h4.dp
  | oo l =>
    simp only [Vl.d, Option.some.injEq] at e
    subst e
    obtain ⟨a, vs, as, h1, h2, h3, h4⟩ := h
    subst h1
    simp only [D.py]
    exact .lst (.inl (.inl h3)) h4.dp
  | dc _ => simp [Vl.d] at e
  | rg _ _ => simp [Vl.d] at e
theorem repV.rp {x : Vl} {fx : List Addr} {v : V} (r : repV K S H x fx v) : RP K S H x fx v := by
  unfold RP
  split
  · obtain ⟨h1, h2⟩ := r
    unfold rep at h2
    obtain ⟨a, vs, e, h3, h4⟩ := h2
    exact ⟨h1, a, vs, e, h3.sq, h4⟩
  · exact r
/-- the items of a value that is looked at -/
theorem RP.items {x : Vl} {l : List D} {fx : List Addr} {v : V} (e : x.items = some l) (h : RP K S H x fx v) :
    ∃ a vs, v = .ref a ∧ (SqL K H a vs ∨ SqT K H a vs) ∧ reps K S H l vs := by
  cases x with
  | v d =>
    cases d with
    | lst m =>
      obtain ⟨_, a, vs, h1, h2, h3⟩ := h
      simp only [Vl.items, D.items, Option.some.injEq] at e
      subst e
      exact ⟨a, vs, h1, .inl h2, h3⟩
    | tup m =>
      have h2 : rep K S H (.tup m) v := h.2
      unfold rep at h2
      obtain ⟨a, vs, h1, h2, h3⟩ := h2
      simp only [Vl.items, D.items, Option.some.injEq] at e
      subst e
      exact ⟨a, vs, h1, .inr h2.sq, h3⟩
    | _ => simp [Vl.items, D.items] at e
  | o m =>
    obtain ⟨a, vs, h1, h2, h3, h4⟩ := h
    simp only [Vl.items, Option.some.injEq] at e
    subst e
    exact ⟨a, vs, h1, .inl (.inl (.inl h3)), h4⟩
  | oo m => simp [Vl.items] at e
  | dc _ => simp [Vl.items] at e
  | rg _ _ => simp [Vl.items] at e
end
section
variable {X : Cx} {W : WX} {a b : Expr} {pos : Pos} {m n : M Vl}
def rEq' (K : PySem.W.Frag) : R2 := fun x y H Q => ∃ d e : D, Dp K H x d.py ∧ Dp K H y e.py ∧ min d.dep e.dep ≤ 64 ∧ Q (.bl (D.eq d e)) H
def rNe' (K : PySem.W.Frag) : R2 := fun x y H Q => ∃ d e : D, Dp K H x d.py ∧ Dp K H y e.py ∧ min d.dep e.dep ≤ 64 ∧ Q (.bl (!D.eq d e)) H
theorem opEq (hu : X.A.units + 66 < cLine) : OpR X (compareOp .Eq) (rEq' X.K) := by
  intro pins s σ H x y v u Q I rx ry h
  obtain ⟨d, e, hd, he, hm, q⟩ := h
  obtain ⟨as, r1⟩ := Dp.reads I _ x v hd rx
  obtain ⟨bs, r2⟩ := Dp.reads I _ y u he ry
  exact SeqAt.eq_plain r1 r2 (py_plain d) (py_plain e) (by rw [py_dep, py_dep]; omega) ⟨.bl _, H, I, by rw [py_eq]; rfl, q⟩
theorem opNe (hu : X.A.units + 66 < cLine) : OpR X (compareOp .NotEq) (rNe' X.K) := by
  intro pins s σ H x y v u Q I rx ry h
  obtain ⟨d, e, hd, he, hm, q⟩ := h
  obtain ⟨as, r1⟩ := Dp.reads I _ x v hd rx
  obtain ⟨bs, r2⟩ := Dp.reads I _ y u he ry
  exact SeqAt.ne_plain r1 r2 (py_plain d) (py_plain e) (by rw [py_dep, py_dep]; omega) ⟨.bl _, H, I, by rw [py_eq]; rfl, q⟩
theorem pure_end {K : PySem.W.Frag} {S : SP'} {H : Hp} {d : D} {w : V} {Q : VK} (r : rep K S H d w)
    (h : ∀ H' fz w, (∀ a o, H a = some o → H' a = some o) → (∀ a ∈ fz, H a = none) → Sep S H' fz → repV K S H' (.v d) fz w → Q w H') : Q w H :=
  h H [] w (fun _ _ h => h) (fun _ h => absurd h (by simp)) Sep.nil ⟨rfl, r⟩
theorem rep_bl {K : PySem.W.Frag} {S : SP'} {H : Hp} (b : Bool) : rep K S H (.bl b) (.bl b) := by unfold rep; rfl
theorem rep_int {K : PySem.W.Frag} {S : SP'} {H : Hp} (i : Int) : rep K S H (.int i) (.int i) := by unfold rep; rfl
theorem ok_eq {K : PySem.W.Frag} : Op2 K (RP K) (RP K) oEq (rEq' K) := by
  intro S H x y z fx fy u v Q e dom sep rx ry h
  unfold oEq Vl.eq at e
  cases ex : x.d with
  | none => simp [ex] at e
  | some d =>
    cases ey : y.d with
    | none => simp [ex, ey] at e
    | some d' =>
      simp only [ex, ey] at e
      by_cases hm : min d.dep d'.dep ≤ 64
      · simp only [hm, if_true, Option.map_some, Option.some.injEq] at e
        subst e
        exact ⟨d, d', rx.dp ex, ry.dp ey, hm, pure_end (rep_bl _) h⟩
      · simp [hm] at e
theorem ok_ne {K : PySem.W.Frag} : Op2 K (RP K) (RP K) oNe (rNe' K) := by
  intro S H x y z fx fy u v Q e dom sep rx ry h
  unfold oNe Vl.eq at e
  cases ex : x.d with
  | none => simp [ex] at e
  | some d =>
    cases ey : y.d with
    | none => simp [ex, ey] at e
    | some d' =>
      simp only [ex, ey] at e
      by_cases hm : min d.dep d'.dep ≤ 64
      · simp only [hm, if_true, Option.map_some, Option.some.injEq] at e
        subst e
        exact ⟨d, d', rx.dp ex, ry.dp ey, hm, pure_end (rep_bl _) h⟩
      · simp [hm] at e
/-! in -/
def rIn' (K : PySem.W.Frag) (neg : Bool) : R2 := fun x y H Q => ∃ (d : D) (l : List D) (a : Addr) (vs : List V), Dp K H x d.py ∧ y = .ref a ∧ (SqL K H a vs ∨ SqT K H a vs) ∧ DpAll K H vs (D.pys l) ∧ d.dep ≤ 64 ∧ Q (.bl (if neg then !inD d l else inD d l)) H
theorem any_in (d : D) : ∀ l : List D, ((D.pys l).any fun y => PyData.eqv y d.py) = inD d l
  | [] => rfl
  | a :: l => by
    have h := any_in d l
    unfold inD at h ⊢
    simp only [D.pys, List.any_cons, py_eq, h]
theorem op_in' (neg : Bool) (hu : X.A.units + 66 < cLine) : OpR X (compareOp (if neg then .NotIn else .In)) (rIn' X.K neg) := by
  intro pins s σ H x y v u Q I rx ry h
  obtain ⟨d, l, a, vs, hd, rfl, hq, hl, hm, q⟩ := h
  obtain ⟨bs, r2⟩ := Dp.reads I _ x v hd rx
  have rc : (∃ as, Reads s.heap u (.list (D.pys l)) as) ∨ ∃ as, Reads s.heap u (.tuple (D.pys l)) as := by
    rcases hq with hq | hq
    · exact .inl (Dp.reads I (.list (D.pys l)) _ u (.lst hq hl) ry)
    · exact .inr (Dp.reads I (.tuple (D.pys l)) _ u (.tup hq hl) ry)
  have hd' : X.A.units + 1 + min (PyData.depthAll (D.pys l)) d.py.depth < cLine := by rw [py_dep]; omega
  cases neg
  · rcases rc with ⟨as, rc⟩ | ⟨as, rc⟩
    · exact SeqAt.in_list_data rc r2 (pys_plain l) (py_plain d) hd' ⟨.bl _, H, I, by rw [any_in]; rfl, q⟩
    · exact SeqAt.in_tuple_data rc r2 (pys_plain l) (py_plain d) hd' ⟨.bl _, H, I, by rw [any_in]; rfl, q⟩
  · rcases rc with ⟨as, rc⟩ | ⟨as, rc⟩
    · exact SeqAt.notIn_list_data rc r2 (pys_plain l) (py_plain d) hd' ⟨.bl _, H, I, by rw [any_in]; rfl, q⟩
    · exact SeqAt.notIn_tuple_data rc r2 (pys_plain l) (py_plain d) hd' ⟨.bl _, H, I, by rw [any_in]; rfl, q⟩
theorem op_in1 (hu : X.A.units + 66 < cLine) : OpR X (compareOp .In) (rIn' X.K false) := op_in' false hu
theorem op_in2 (hu : X.A.units + 66 < cLine) : OpR X (compareOp .NotIn) (rIn' X.K true) := op_in' true hu
theorem ok_in {K : PySem.W.Frag} : Op2 K (RP K) (RP K) oIn (rIn' K false) := by
  intro S H x y z fx fy u v Q e dom sep rx ry h
  unfold oIn at e
  cases ex : x.d with
  | none => simp [ex] at e
  | some d =>
    cases ey : y.items with
    | none => simp [ex, ey] at e
    | some l =>
      simp only [ex, ey] at e
      by_cases hm : d.dep ≤ 64
      · simp only [hm, if_true, Option.some.injEq] at e
        subst e
        obtain ⟨a, vs, e1, e2, e3⟩ := ry.items ey
        exact ⟨d, l, a, vs, rx.dp ex, e1, e2, e3.dp, hm, pure_end (rep_bl _) h⟩
      · simp [hm] at e
theorem ok_notIn {K : PySem.W.Frag} : Op2 K (RP K) (RP K) oNotIn (rIn' K true) := by
  intro S H x y z fx fy u v Q e dom sep rx ry h
  unfold oNotIn at e
  cases ex : x.d with
  | none => simp [ex] at e
  | some d =>
    cases ey : y.items with
    | none => simp [ex, ey] at e
    | some l =>
      simp only [ex, ey] at e
      by_cases hm : d.dep ≤ 64
      · simp only [hm, if_true, Option.some.injEq] at e
        subst e
        obtain ⟨a, vs, e1, e2, e3⟩ := ry.items ey
        exact ⟨d, l, a, vs, rx.dp ex, e1, e2, e3.dp, hm, pure_end (rep_bl _) h⟩
      · simp [hm] at e
/-! ints -/
theorem rep_inv_int {K : PySem.W.Frag} {S : SP'} {H : Hp} {i : Int} {fx : List Addr} {v : V} (h : repV K S H (.v (.int i)) fx v) : v = .int i := by
  have := h.2
  unfold rep at this
  exact this
theorem ok_int2 {K : PySem.W.Frag} {f : Vl → Vl → Option Vl} {r : R2} (g : Int → Int → Option D) (gv : ∀ i j d, g i j = some d → ∀ (K : PySem.W.Frag) S H, ∃ w, rep K S H d w ∧ ∀ H Q, Q w H → r (.int i) (.int j) H Q)
    (hf : ∀ x y z, f x y = some z → ∃ i j d, x = .v (.int i) ∧ y = .v (.int j) ∧ g i j = some d ∧ z = .v d) : Op2 K (repV K) (repV K) f r := by
  intro S H x y z fx fy u v Q e dom sep rx ry h
  obtain ⟨i, j, d, rfl, rfl, hg, rfl⟩ := hf x y z e
  rw [rep_inv_int rx, rep_inv_int ry]
  obtain ⟨w, hw, hr⟩ := gv i j d hg K S H
  exact hr H Q (pure_end hw h)
theorem ok_lt {K : PySem.W.Frag} : Op2 K (repV K) (repV K) oLt (rI0 fun i j => .bl (decide (i < j))) :=
  ok_int2 (fun i j => some (.bl (decide (i < j)))) (fun i j d e K S H => by cases e; exact ⟨_, rep_bl _, fun H Q q => ⟨i, j, rfl, rfl, q⟩⟩) fun x y z e => by
    unfold oLt at e
    split at e
    · cases e; exact ⟨_, _, _, rfl, rfl, rfl, rfl⟩
    · cases e
theorem ok_le {K : PySem.W.Frag} : Op2 K (repV K) (repV K) oLe (rI0 fun i j => .bl (decide (i ≤ j))) :=
  ok_int2 (fun i j => some (.bl (decide (i ≤ j)))) (fun i j d e K S H => by cases e; exact ⟨_, rep_bl _, fun H Q q => ⟨i, j, rfl, rfl, q⟩⟩) fun x y z e => by
    unfold oLe at e
    split at e
    · cases e; exact ⟨_, _, _, rfl, rfl, rfl, rfl⟩
    · cases e
theorem ok_gt {K : PySem.W.Frag} : Op2 K (repV K) (repV K) oGt (rI0 fun i j => .bl (decide (j < i))) :=
  ok_int2 (fun i j => some (.bl (decide (j < i)))) (fun i j d e K S H => by cases e; exact ⟨_, rep_bl _, fun H Q q => ⟨i, j, rfl, rfl, q⟩⟩) fun x y z e => by
    unfold oGt at e
    split at e
    · cases e; exact ⟨_, _, _, rfl, rfl, rfl, rfl⟩
    · cases e
theorem ok_ge {K : PySem.W.Frag} : Op2 K (repV K) (repV K) oGe (rI0 fun i j => .bl (decide (j ≤ i))) :=
  ok_int2 (fun i j => some (.bl (decide (j ≤ i)))) (fun i j d e K S H => by cases e; exact ⟨_, rep_bl _, fun H Q q => ⟨i, j, rfl, rfl, q⟩⟩) fun x y z e => by
    unfold oGe at e
    split at e
    · cases e; exact ⟨_, _, _, rfl, rfl, rfl, rfl⟩
    · cases e
theorem ok_sub {K : PySem.W.Frag} : Op2 K (repV K) (repV K) oSub (rI0 fun i j => .int (i - j)) :=
  ok_int2 (fun i j => some (.int (i - j))) (fun i j d e K S H => by cases e; exact ⟨_, rep_int _, fun H Q q => ⟨i, j, rfl, rfl, q⟩⟩) fun x y z e => by
    unfold oSub at e
    split at e
    · cases e; exact ⟨_, _, _, rfl, rfl, rfl, rfl⟩
    · cases e
theorem ok_mod {K : PySem.W.Frag} : Op2 K (repV K) (repV K) oMod (rI (fun _ j => 0 < j) fun i j => .int (i % j)) :=
  ok_int2 (fun i j => if 0 < j then some (.int (i % j)) else none) (fun i j d e K S H => by
      split at e
      · cases e; exact ⟨_, rep_int _, fun H Q q => ⟨i, j, rfl, rfl, by assumption, q⟩⟩
      · cases e) fun x y z e => by
    unfold oMod at e
    split at e
    · split at e
      · cases e; exact ⟨_, _, _, rfl, rfl, if_pos (by assumption), rfl⟩
      · cases e
    · cases e
theorem ok_div {K : PySem.W.Frag} : Op2 K (repV K) (repV K) oDiv (rI CDivW fun i j => .int (i / j)) :=
  ok_int2 (fun i j => if divOk j then some (.int (i / j)) else none) (fun i j d e K S H => by
      split at e
      · rename_i hd
        unfold divOk at hd
        simp only [Bool.and_eq_true, decide_eq_true_eq] at hd
        cases e; exact ⟨_, rep_int _, fun H Q q => ⟨i, j, rfl, rfl, hd, q⟩⟩
      · cases e) fun x y z e => by
    unfold oDiv at e
    split at e
    · split at e
      · cases e; exact ⟨_, _, _, rfl, rfl, if_pos (by assumption), rfl⟩
      · cases e
    · cases e
theorem ok_pow {K : PySem.W.Frag} : Op2 K (repV K) (repV K) oPow (rI CPow fun i j => .int (i ^ j.toNat)) :=
  ok_int2 (fun i j => if 0 ≤ j ∧ j ≤ 1000000 ∧ i.natAbs < 2 ^ 64 then some (.int (i ^ j.toNat)) else none) (fun i j d e K S H => by
      split at e
      · rename_i hd
        cases e; exact ⟨_, rep_int _, fun H Q q => ⟨i, j, rfl, rfl, hd, q⟩⟩
      · cases e) fun x y z e => by
    unfold oPow at e
    split at e
    · split at e
      · cases e; exact ⟨_, _, _, rfl, rfl, if_pos (by assumption), rfl⟩
      · cases e
    · cases e
end
end Fx
end

section
set_option Elab.async false
set_option linter.all false
set_option maxRecDepth 100000
set_option maxHeartbeats 4000000
/-! Wd: names, tests, displays, sums, places, built-ins. -/
namespace Fx
open PySem PySem.Spec PyProof.Rows L2

section
variable {K : PySem.W.Frag} {mg : Str → Option Value} {S S1 : SP'} {H H1 : Hp}
/-! ### the names' part, by places -/
theorem envR.at : ∀ {e : En} {fp : List Addr} {σ : L2.St} {i : Nat} {x : Vl}, envR K S H e fp σ → e[i]? = some (some x) →
    ∃ v f1 f2 f3, σ[i]? = some (some v) ∧ fp = f1 ++ (f2 ++ f3) ∧ repV K S H x f2 v ∧
      (∀ (S' : SP') (H' : Hp) (y : Option Vl) (g : List Addr) (w : Option V), Stb S H S' H' → (∀ a ∈ f1 ++ f3, H' a = H a) →
        (match y with | some y => ∃ w', w = some w' ∧ repV K S' H' y g w' | none => g = []) → envR K S' H' (e.set i y) (f1 ++ (g ++ f3)) (σ.set i w))
  | [], _, _, _, _, _, e => by simp at e
  | none :: e, fp, σ, 0, _, _, e' => by simp at e'
  | none :: e, fp, σ, i + 1, x, h, e' => by
    unfold envR at h
    obtain ⟨s, r, h1, h2⟩ := h
    subst h1
    obtain ⟨v, f1, f2, f3, q1, q2, q3, q4⟩ := envR.at (i := i) h2 (by simpa using e')
    refine ⟨v, f1, f2, f3, by simpa using q1, q2, q3, fun S' H' y g w st k hy => ?_⟩
    simp only [List.set_cons_succ]
    unfold envR
    exact ⟨s, _, rfl, q4 S' H' y g w st k hy⟩
  | some y :: e, fp, σ, 0, x, h, e' => by
    unfold envR at h
    obtain ⟨v, r, f1, f2, h1, h2, h3, h4⟩ := h
    simp at e'
    subst h1 h2 e'
    refine ⟨v, [], f1, f2, rfl, rfl, h3, fun S' H' z g w st k hz => ?_⟩
    simp only [List.set_cons_zero, List.nil_append]
    have h4' := envR.stb st e f2 r (fun a q => k a (by simpa using q)) h4
    cases z with
    | none =>
      subst hz
      unfold envR
      exact ⟨w, r, rfl, h4'⟩
    | some z =>
      obtain ⟨w', e1, e2⟩ := hz
      subst e1
      unfold envR
      exact ⟨w', r, g, f2, rfl, rfl, e2, h4'⟩
  | some y :: e, fp, σ, i + 1, x, h, e' => by
    unfold envR at h
    obtain ⟨v, r, f1, f2, h1, h2, h3, h4⟩ := h
    subst h1 h2
    obtain ⟨v', g1, g2, g3, q1, q2, q3, q4⟩ := envR.at (i := i) h4 (by simpa using e')
    subst q2
    refine ⟨v', f1 ++ g1, g2, g3, by simpa using q1, by simp, q3, fun S' H' z g w st k hz => ?_⟩
    simp only [List.set_cons_succ]
    unfold envR
    refine ⟨v, _, f1, g1 ++ (g ++ g3), rfl, by simp, h3.stb st fun a q => k a (by simp [q]), q4 S' H' z g w st (fun a q => k a ?_) hz⟩
    simp only [List.mem_append] at q ⊢
    rcases q with q | q
    · exact .inl (.inr q)
    · exact .inr q
/-- a place that is stored, whatever it held -/
theorem envR.put : ∀ {e : En} {fp : List Addr} {σ : L2.St} {i : Nat}, envR K S H e fp σ → i < e.length →
    ∃ f1 f2 f3, fp = f1 ++ (f2 ++ f3) ∧
      (∀ (S' : SP') (H' : Hp) (y : Option Vl) (g : List Addr) (w : Option V), Stb S H S' H' → (∀ a ∈ f1 ++ f3, H' a = H a) →
        (match y with | some y => ∃ w', w = some w' ∧ repV K S' H' y g w' | none => g = []) → envR K S' H' (e.set i y) (f1 ++ (g ++ f3)) (σ.set i w))
  | [], _, _, _, _, e => by simp at e
  | none :: e, fp, σ, 0, h, _ => by
    unfold envR at h
    obtain ⟨s, r, h1, h2⟩ := h
    subst h1
    refine ⟨[], [], fp, rfl, fun S' H' z g w st k hz => ?_⟩
    simp only [List.set_cons_zero, List.nil_append]
    have h4' := envR.stb st e fp r (fun a q => k a (by simpa using q)) h2
    cases z with
    | none =>
      subst hz
      unfold envR
      exact ⟨w, r, rfl, h4'⟩
    | some z =>
      obtain ⟨w', e1, e2⟩ := hz
      subst e1
      unfold envR
      exact ⟨w', r, g, fp, rfl, rfl, e2, h4'⟩
  | none :: e, fp, σ, i + 1, h, e' => by
    unfold envR at h
    obtain ⟨s, r, h1, h2⟩ := h
    subst h1
    obtain ⟨f1, f2, f3, q2, q4⟩ := envR.put (i := i) h2 (by simpa using e')
    refine ⟨f1, f2, f3, q2, fun S' H' y g w st k hy => ?_⟩
    simp only [List.set_cons_succ]
    unfold envR
    exact ⟨s, _, rfl, q4 S' H' y g w st k hy⟩
  | some y :: e, fp, σ, 0, h, _ => by
    unfold envR at h
    obtain ⟨v, r, f1, f2, h1, h2, h3, h4⟩ := h
    subst h1 h2
    refine ⟨[], f1, f2, rfl, fun S' H' z g w st k hz => ?_⟩
    simp only [List.set_cons_zero, List.nil_append]
    have h4' := envR.stb st e f2 r (fun a q => k a (by simpa using q)) h4
    cases z with
    | none =>
      subst hz
      unfold envR
      exact ⟨w, r, rfl, h4'⟩
    | some z =>
      obtain ⟨w', e1, e2⟩ := hz
      subst e1
      unfold envR
      exact ⟨w', r, g, f2, rfl, rfl, e2, h4'⟩
  | some y :: e, fp, σ, i + 1, h, e' => by
    unfold envR at h
    obtain ⟨v, r, f1, f2, h1, h2, h3, h4⟩ := h
    subst h1 h2
    obtain ⟨g1, g2, g3, q2, q4⟩ := envR.put (i := i) h4 (by simpa using e')
    subst q2
    refine ⟨f1 ++ g1, g2, g3, by simp, fun S' H' z g w st k hz => ?_⟩
    simp only [List.set_cons_succ]
    unfold envR
    refine ⟨v, _, f1, g1 ++ (g ++ g3), rfl, by simp, h3.stb st fun a q => k a (by simp [q]), q4 S' H' z g w st (fun a q => k a ?_) hz⟩
    simp only [List.mem_append] at q ⊢
    rcases q with q | q
    · exact .inl (.inr q)
    · exact .inr q
end

section
variable {X : Cx} {W : WX} {a b c : Expr} {pos : Pos} {m n : M Vl}

/-- a constant -/
theorem de_c {t : TE} {d : D} (h : PE X a t) (k : ∀ σ H Q, (∀ v, (∀ K S, rep K S H d v) → Q v H) → t σ H Q) : DE X W a (eC d) :=
  ⟨PEm h fun σ H Q ⟨S, e, fp, wd, p⟩ => k σ H Q fun v r => p S H fp [] v (Ext.refl S H fp) wd wd.sep ⟨rfl, r X.K S⟩⟩
theorem de_int {i : Int} {j : Nat} : DE X W (.Constant (.int i) j pos) (eC (.int i)) := de_c pe_int fun σ H Q k => k _ fun K S => by unfold rep; rfl
theorem de_bl {i : Bool} {j : Nat} : DE X W (.Constant (.bool i) j pos) (eC (.bl i)) := de_c pe_bl fun σ H Q k => k _ fun K S => by unfold rep; rfl
theorem de_non {j : Nat} : DE X W (.Constant .none j pos) (eC .non) := de_c pe_non fun σ H Q k => k _ fun K S => by unfold rep; rfl
theorem de_str {x : String} {j : Nat} : DE X W (.Constant (.str (Str.ofString x)) j pos) (eC (.str x)) := de_c pe_str fun σ H Q k => k _ fun K S => by unfold rep; rfl
/-- a module's constant -/
theorem de_glob {x : Str} {v : V} {u : Value} {d : D} (hg : Gl X x) (hm : X.mg x = some u) (r : RelV v u) (rd : ∀ S H, rep X.K S H d v) (hd : (x == ("__debug__" : Str)) = false := by decide) : DE X W (.Name x pos) (eC d) :=
  ⟨PEm (pe_glob hg hm r hd) fun σ H Q ⟨S, e, fp, wd, p⟩ => p S H fp [] v (Ext.refl S H fp) wd wd.sep ⟨rfl, rd S H⟩⟩

/-- a list of one's own is lent to reading for good -/
theorem Wd.freeze {K : PySem.W.Frag} {S : SP'} {H : Hp} {e : En} {fp f1 f2 f3 : List Addr} {σ : L2.St} (wd : Wd K S H e fp σ) (ef : fp = f1 ++ (f2 ++ f3)) (hl : ∀ a ∈ f2, ∃ xs, H a = some (.lst xs)) :
    Stb S H (fun a => S a ∨ a ∈ f2) H ∧ Ext S H fp (fun a => S a ∨ a ∈ f2) H (f1 ++ f3) ∧ Sep (fun a => S a ∨ a ∈ f2) H (f1 ++ f3) ∧ (∀ a, (S a ∨ a ∈ f2) → ∃ xs, H a = some (.lst xs)) := by
  subst ef
  have nd := wd.sep.nd
  rw [List.nodup_append] at nd
  obtain ⟨n1, n2, n3⟩ := nd
  rw [List.nodup_append] at n2
  obtain ⟨n4, n5, n6⟩ := n2
  refine ⟨⟨fun a h => .inl h, fun a o h _ => h⟩, ⟨fun a o h _ => h, fun a h => .inl ?_, fun a h => .inl h, fun a h => ?_⟩, ⟨?_, fun a h z => ?_, fun a h => wd.sep.ow a ?_⟩, fun a h => ?_⟩
  · simp only [List.mem_append] at h ⊢
    rcases h with h | h
    · exact .inl h
    · exact .inr (.inr h)
  · rcases h with h | h
    · exact .inl h
    · exact .inr (.inl (by simp [h]))
  · rw [List.nodup_append]
    exact ⟨n1, n5, fun a p b q => n3 a p b (List.mem_append_right _ q)⟩
  · rcases z with z | z
    · refine wd.sep.ns a ?_ z
      simp only [List.mem_append] at h ⊢
      rcases h with h | h
      · exact .inl h
      · exact .inr (.inr h)
    · rcases List.mem_append.mp h with h | h
      · exact n3 a h a (List.mem_append_left _ z) rfl
      · exact n6 a z a h rfl
  · simp only [List.mem_append] at h ⊢
    rcases h with h | h
    · exact .inl h
    · exact .inr (.inr h)
  · rcases h with h | h
    · exact wd.dom a h
    · exact hl a h
theorem rows.lists {K : PySem.W.Frag} {S : SP'} {H : Hp} : ∀ {ls : List (List D)} {as : List Addr} {vs : List V}, rows K S H ls as vs → ∀ a ∈ as, ∃ xs, H a = some (.lst xs)
  | [], _, _, h => by unfold rows at h; rw [h.1]; simp
  | l :: ls, _, _, h => by
    unfold rows at h
    obtain ⟨b, r, ws, rs, h1, h2, h3, h4, h5⟩ := h
    subst h1
    intro a q
    rcases List.mem_cons.mp q with q | q
    · subst q; exact ⟨_, h3⟩
    · exact h5.lists a q
theorem rows.froze {K : PySem.W.Frag} {S S' : SP'} {H : Hp} (st : Stb S H S' H) : ∀ {ls : List (List D)} {as : List Addr} {vs : List V}, rows K S H ls as vs → (∀ a ∈ as, S' a) → reps K S' H (ls.map .lst) vs
  | [], _, _, h, _ => by unfold rows at h; rw [h.2]; exact reps.nil
  | l :: ls, _, _, h, k => by
    unfold rows at h
    obtain ⟨b, r, ws, rs, h1, h2, h3, h4, h5⟩ := h
    subst h1 h2
    exact reps.cons (by unfold rep; exact ⟨b, ws, rfl, .inl ⟨k b (by simp), h3⟩, reps.stb st l ws h4⟩) (h5.froze st fun a q => k a (List.mem_cons_of_mem _ q))
theorem repV.lists {K : PySem.W.Frag} {S : SP'} {H : Hp} {x : Vl} {d : D} {fx : List Addr} {v : V} (e : x.d = some d) (h : repV K S H x fx v) : ∀ a ∈ fx, ∃ xs, H a = some (.lst xs) := by
  cases x with
  | v d => rw [h.1]; simp
  | o l =>
    obtain ⟨a, vs, h1, h2, h3, h4⟩ := h
    subst h2
    intro b q
    simp at q
    subst q
    exact ⟨_, h3⟩
  | oo l =>
    obtain ⟨a, vs, as, h1, h2, h3, h4⟩ := h
    subst h2
    intro b q
    rcases List.mem_cons.mp q with q | q
    · subst q; exact ⟨_, h3⟩
    · exact h4.lists b q
  | dc _ => simp [Vl.d] at e
  | rg _ _ => simp [Vl.d] at e
/-- .. read for good -/
theorem repV.froze {K : PySem.W.Frag} {S S' : SP'} {H : Hp} {x : Vl} {d : D} {fx : List Addr} {v : V} (st : Stb S H S' H) (e : x.d = some d) (h : repV K S H x fx v) (k : ∀ a ∈ fx, S' a) : rep K S' H d v := by
  cases x with
  | v d' =>
    simp only [Vl.d, Option.some.injEq] at e
    subst e
    exact rep.stb st _ v h.2
  | o l =>
    simp only [Vl.d, Option.some.injEq] at e
    subst e
    obtain ⟨a, vs, h1, h2, h3, h4⟩ := h
    subst h2
    unfold rep
    exact ⟨a, vs, h1, .inl ⟨k a (by simp), h3⟩, reps.stb st l vs h4⟩
  | oo l =>
    simp only [Vl.d, Option.some.injEq] at e
    subst e
    obtain ⟨a, vs, as, h1, h2, h3, h4⟩ := h
    subst h2
    unfold rep
    exact ⟨a, vs, h1, .inl ⟨k a (by simp), h3⟩, h4.froze st fun b q => k b (by simp [q])⟩
  | dc _ => simp [Vl.d] at e
  | rg _ _ => simp [Vl.d] at e
theorem set_same {α : Type} : ∀ {l : List α} {i : Nat} {x : α}, l[i]? = some x → l.set i x = l
  | [], _, _, h => by simp at h
  | a :: l, 0, x, h => by simp at h; subst h; rfl
  | a :: l, i + 1, x, h => by simp only [List.set_cons_succ]; rw [set_same (by simpa using h)]
theorem de_v (i : Nat) {x : Str} (hN : X.N[i]? = some x := by rfl) (hv : Vis X.env.scope x := by first | exact Or.inl rfl | exact Or.inr (Or.inl rfl) | exact Or.inr (Or.inr rfl)) (hd : (x == ("__debug__" : Str)) = false := by decide)
    (hcd : (x == ("__classdict__" : Str)) = false := by decide) : DE X W (.Name x pos) (eV i) := by
  refine ⟨PEm (pe_var hN hv hd hcd) fun σ H Q ⟨S, e, fp, wd, p⟩ => ?_⟩
  have key : ∀ (x : Vl) (d : D), e[i]? = some (some x) → x.d = some d → (∀ S' H' fp' fx v, Ext S H fp S' H' (fx ++ fp') → Wd X.K S' H' (e.set i (some (.v d))) fp' σ → Sep S' H' (fx ++ fp') → repV X.K S' H' (.v d) fx v → Q v H') → ∃ v, σ[i]? = some (some v) ∧ Q v H := fun x d he hx p => by
    obtain ⟨v, f1, f2, f3, q1, q2, q3, q4⟩ := wd.env.at he
    refine ⟨v, q1, ?_⟩
    obtain ⟨st, ext, sep, dom⟩ := wd.freeze q2 (q3.lists hx)
    have rd : rep X.K (fun a => S a ∨ a ∈ f2) H d v := q3.froze st hx fun a q => .inr q
    have env := q4 (fun a => S a ∨ a ∈ f2) H (some (.v d)) [] (some v) st (fun _ _ => rfl) ⟨v, rfl, rfl, rd⟩
    rw [set_same q1, List.nil_append] at env
    exact p _ H (f1 ++ f3) [] v ext ⟨env, sep, dom⟩ sep ⟨rfl, rd⟩
  unfold eV at p
  split at p
  · rename_i d he
    obtain ⟨v, q, r⟩ := key _ d he rfl (by rw [set_same he]; exact p)
    exact ⟨v, q, r⟩
  · rename_i l he
    exact key _ _ he rfl p
  · rename_i l he
    exact key _ _ he rfl p
  · exact p.elim
theorem RP_of_d {K : PySem.W.Frag} {S : SP'} {H : Hp} {x : Vl} {d : D} {fx : List Addr} {v : V} (e : x.d = some d) (f : x.flat = true) (h : repV K S H x fx v) : RP K S H (.v d) [] v := by
  cases x with
  | v d' =>
    simp only [Vl.d, Option.some.injEq] at e
    subst e
    have h1 := h.1
    subst h1
    exact h.rp
  | o l =>
    simp only [Vl.d, Option.some.injEq] at e
    subst e
    obtain ⟨a, vs, h1, h2, h3, h4⟩ := h
    exact ⟨rfl, a, vs, h1, .inl (.inl h3), h4⟩
  | oo l => simp [Vl.flat] at f
  | dc _ => simp [Vl.flat] at f
  | rg _ _ => simp [Vl.flat] at f
/-- a name that is only looked at -/
theorem dp_v (i : Nat) {x : Str} (hN : X.N[i]? = some x := by rfl) (hv : Vis X.env.scope x := by first | exact Or.inl rfl | exact Or.inr (Or.inl rfl) | exact Or.inr (Or.inr rfl)) (hd : (x == ("__debug__" : Str)) = false := by decide)
    (hcd : (x == ("__classdict__" : Str)) = false := by decide) : DP X W (.Name x pos) (eP i) := by
  refine ⟨PEm (pe_var hN hv hd hcd) fun σ H Q ⟨S, e, fp, wd, p⟩ => ?_⟩
  unfold eP at p
  split at p
  · rename_i x he
    obtain ⟨v, f1, f2, f3, q1, q2, q3, q4⟩ := wd.env.at he
    refine ⟨v, q1, ?_⟩
    split at p
    · rename_i hf
      cases hx : x.d with
      | none => simp [hx, lift, Rs.post] at p
      | some d =>
        simp only [hx, Option.map_some, lift, Rs.post] at p
        exact p S H fp [] v (Ext.refl S H fp) wd wd.sep (RP_of_d hx hf q3)
    · exact p.elim
  · exact p.elim

/-! ### tests -/
theorem dt_and1 {t : M Bool} (h : DT X W a t) : DT X W (.BoolOp .And [a] pos) t := ⟨(pw_and1 h.p).pt⟩
structure DW (X : Cx) (W : WX) (e : Expr) (m : M Bool) : Prop where
  p : PW X e (TR X.K X.mg W RB m)
theorem DW.dt {t : M Bool} (h : DW X W a t) : DT X W a t := ⟨h.p.pt⟩
theorem PWm {X : Cx} {e : Expr} {t t' : TT} (h : PW X e t) (k : ∀ σ H Q, t' σ H Q → t σ H Q) : PW X e t' := ⟨fun wh pins s σ H Q I q => h.run wh pins s σ H Q I (k σ H Q q)⟩
theorem dw_and1 {t : M Bool} (h : DT X W a t) : DW X W (.BoolOp .And [a] pos) t := ⟨pw_and1 h.p⟩
theorem dw_or1 {t : M Bool} (h : DT X W a t) : DW X W (.BoolOp .Or [a] pos) t := ⟨pw_or1 h.p⟩
theorem dw_and {t u : M Bool} {rest : List Expr} (ha : DT X W a t) (hb : DW X W (.BoolOp .And (b :: rest) pos) u) : DW X W (.BoolOp .And (a :: b :: rest) pos) (tAnd t u) := by
  refine ⟨PWm (pw_and ha.p hb.p) fun σ H Q h => ?_⟩
  refine TR.bind (k := fun c e => if c then u e else .ok false e) h fun S e fp S1 H1 e1 fp1 fx x v wd ext wd1 sep1 rx p => ?_
  obtain ⟨rfl, rfl⟩ := rx
  cases v with
  | false => exact p S1 H1 fp1 [] false ext wd1 sep1 ⟨rfl, rfl⟩
  | true =>
    refine TR.next (k := fun y e => .ok y e) (R' := RB) (Q := Q) wd1 ext sep1 ?_ fun S2 H2 e2 fp2 fy y w ext2 st keep wd2 sep2 ry p2 => ?_
    · cases q : u e1 <;> simp only [q] at p <;> exact p
    · obtain ⟨rfl, rfl⟩ := ry
      exact p2 S2 H2 fp2 [] _ ext2 wd2 sep2 ⟨rfl, rfl⟩
theorem dw_or {t u : M Bool} {rest : List Expr} (ha : DT X W a t) (hb : DW X W (.BoolOp .Or (b :: rest) pos) u) : DW X W (.BoolOp .Or (a :: b :: rest) pos) (tOr t u) := by
  refine ⟨PWm (pw_or ha.p hb.p) fun σ H Q h => ?_⟩
  refine TR.bind (k := fun c e => if c then .ok true e else u e) h fun S e fp S1 H1 e1 fp1 fx x v wd ext wd1 sep1 rx p => ?_
  obtain ⟨rfl, rfl⟩ := rx
  cases v with
  | true => exact p S1 H1 fp1 [] true ext wd1 sep1 ⟨rfl, rfl⟩
  | false =>
    refine TR.next (k := fun y e => .ok y e) (R' := RB) (Q := Q) wd1 ext sep1 ?_ fun S2 H2 e2 fp2 fy y w ext2 st keep wd2 sep2 ry p2 => ?_
    · cases q : u e1 <;> simp only [q] at p <;> exact p
    · obtain ⟨rfl, rfl⟩ := ry
      exact p2 S2 H2 fp2 [] _ ext2 wd2 sep2 ⟨rfl, rfl⟩
theorem dt_not {t : M Bool} (h : DT X W a t) : DT X W (.UnaryOp .Not a pos) (tNot t) := by
  refine ⟨PTm (pt_not h.p) fun σ H Q h => ?_⟩
  refine TR.bind (k := fun c e => .ok (!c) e) h fun S e fp S1 H1 e1 fp1 fx x v wd ext wd1 sep1 rx p => ?_
  obtain ⟨rfl, rfl⟩ := rx
  exact p S1 H1 fp1 [] _ ext wd1 sep1 ⟨rfl, rfl⟩
theorem ok_bool {K : PySem.W.Frag} {S : SP'} {H : Hp} {x : Vl} {c : Bool} {fx : List Addr} {v : V} (e : x.bool = some c) (r : repV K S H x fx v) : v = .bl c ∧ fx = [] := by
  unfold Vl.bool at e
  split at e
  · cases e
    have := r.2
    unfold rep at this
    exact ⟨this, r.1⟩
  · cases e
theorem tb_tr {σ : L2.St} {H : Hp} {Q : Bool → Hp → Prop} (h : TR X.K X.mg W RB (Fx.tB m) σ H Q) : L2.tB (TR X.K X.mg W (repV X.K) m) σ H Q := by
  refine TR.bind (k := fun x e => lift x.bool e) h fun S e fp S1 H1 e1 fp1 fx x v wd ext wd1 sep1 rx p => ?_
  cases q : x.bool with
  | none => rw [q] at p; exact p.elim
  | some c =>
    rw [q] at p
    obtain ⟨rfl, rfl⟩ := ok_bool q rx
    exact ⟨c, rfl, p S1 H1 fp1 [] c ext wd1 sep1 ⟨rfl, rfl⟩⟩
/-- a value that is a bool, as a test -/
theorem dt_b (h : DE X W a m) (he : ∀ whole, isTrue a X.env whole = (do let v ← whole; standAt a.pos; holding [v] (truthy v)) := by intro _; rfl) : DT X W a (Fx.tB m) := ⟨PTm (pt_val h.p he) fun σ H Q => tb_tr⟩
theorem len_emp {α β : Type} {l : List α} {m : List β} (h : l.length = m.length) : (!l.isEmpty) = !m.isEmpty := by
  cases l <;> cases m <;> simp_all
theorem ok_truth {K : PySem.W.Frag} {S : SP'} {H : Hp} {x : Vl} {c : Bool} {fx : List Addr} {v : V} (e : x.truth = some c) (r : RP K S H x fx v) : TruV K v H c := by
  unfold Vl.truth at e
  split at e <;> simp only [Option.some.injEq, reduceCtorEq] at e
  · subst e; have := r.2; unfold rep at this; subst this; rfl
  · subst e; have := r.2; unfold rep at this; subst this; rfl
  · subst e; have := r.2; unfold rep at this; subst this
    unfold TruV
    rename_i i
    by_cases hi : i = 0
    · subst hi; rfl
    · simp [hi, bne]
  · subst e
    have := r.2
    unfold rep at this
    obtain ⟨a, vs, h1, h2, h3⟩ := this
    subst h1
    exact .inr (.inl ⟨vs, h2.sq, len_emp h3.length⟩)
  · subst e
    obtain ⟨_, a, vs, h1, h2, h3⟩ := r
    subst h1
    exact .inl ⟨vs, h2, len_emp h3.length⟩
  · subst e
    obtain ⟨a, vs, h1, _, h2, h3⟩ := r
    subst h1
    exact .inl ⟨vs, .inl (.inl h2), len_emp h3.length⟩
/-- any value's truth, but a text's -/
theorem dt_t (h : DP X W a m) (he : ∀ whole, isTrue a X.env whole = (do let v ← whole; standAt a.pos; holding [v] (truthy v)) := by intro _; rfl) : DT X W a (tT m) := by
  refine ⟨PTm (pt_truth h.p he) fun σ H Q h => ?_⟩
  refine TR.bind (k := fun x e => lift x.truth e) h fun S e fp S1 H1 e1 fp1 fx x v wd ext wd1 sep1 rx p => ?_
  cases q : x.truth with
  | none => rw [q] at p; exact p.elim
  | some c =>
    rw [q] at p
    refine ⟨c, ok_truth q rx, p S1 H1 fp1 [] c ext.drop wd1 wd1.sep ⟨rfl, rfl⟩⟩
/-- a comparison, as a value, as a test -/
theorem de_cmp {op : CmpOp} {f : Vl → Vl → Option Vl} {r : R2} (ho : OpR X (compareOp op) r) (ok : Op2 X.K (repV X.K) (repV X.K) f r) (ha : DE X W a m) (hb : DE X W b n) (hm : behindInMarks op b = false := by first | exact nobehind _ (by decide) (by decide) | rfl) :
    DE X W (.Compare a [op] [b] pos) (e2 f m n) := ⟨PEm (pe_cmpR ho ha.p hb.p hm) fun σ H Q h => op2_tr ok (wt_rep _) h⟩
theorem wt_RP (K : PySem.W.Frag) : ∀ S H S1 H1 x v, Stb S H S1 H1 → repV K S H (.v x) [] v → RP K S1 H1 (.v x) [] v := fun S H S1 H1 x v st h => (h.stb st fun _ q => absurd q (by simp)).rp
/-- the second operand is only looked at -/
theorem Op2.pp {K : PySem.W.Frag} {f : Vl → Vl → Option Vl} {r : R2} (ok : Op2 K (RP K) (RP K) f r) : Op2 K (repV K) (RP K) f r := fun S H x y z fx fy u v Q e d s rx ry h => ok S H x y z fx fy u v Q e d s rx.rp ry h
theorem Op2.vv {K : PySem.W.Frag} {f : Vl → Vl → Option Vl} {r : R2} (ok : Op2 K (RP K) (RP K) f r) : Op2 K (repV K) (repV K) f r := fun S H x y z fx fy u v Q e d s rx ry h => ok S H x y z fx fy u v Q e d s rx.rp ry.rp h
theorem de_cmpP {op : CmpOp} {f : Vl → Vl → Option Vl} {r : R2} (ho : OpR X (compareOp op) r) (ok : Op2 X.K (RP X.K) (RP X.K) f r) (ha : DE X W a m) (hb : DP X W b n) (hm : behindInMarks op b = false := by first | exact nobehind _ (by decide) (by decide) | rfl) :
    DE X W (.Compare a [op] [b] pos) (e2 f m n) := ⟨PEm (pe_cmpR ho ha.p hb.p hm) fun σ H Q h => op2_tr ok.pp (wt_rep _) h⟩
theorem ttest {f : M Vl} {t : TE} (h : ∀ σ H Q, TR X.K X.mg W (repV X.K) f σ H Q → t σ H Q) {σ : L2.St} {H : Hp} {Q : Bool → Hp → Prop} (q : TR X.K X.mg W RB (Fx.tB f) σ H Q) : tTest t σ H Q := h σ H _ (tb_tr q)
theorem dt_cmp {op : CmpOp} {f : Vl → Vl → Option Vl} {r : R2} (ho : OpR X (compareOp op) r) (ok : Op2 X.K (repV X.K) (repV X.K) f r) (ha : DE X W a m) (hb : DE X W b n) (hm : behindInMarks op b = false := by first | exact nobehind _ (by decide) (by decide) | rfl) :
    DT X W (.Compare a [op] [b] pos) (Fx.tB (e2 f m n)) := ⟨PTm (pt_cmpR ho ha.p hb.p hm) fun σ H Q q => ttest (fun σ H Q h => op2_tr ok (wt_rep _) h) q⟩
theorem dt_cmpP {op : CmpOp} {f : Vl → Vl → Option Vl} {r : R2} (ho : OpR X (compareOp op) r) (ok : Op2 X.K (RP X.K) (RP X.K) f r) (ha : DE X W a m) (hb : DP X W b n) (hm : behindInMarks op b = false := by first | exact nobehind _ (by decide) (by decide) | rfl) :
    DT X W (.Compare a [op] [b] pos) (Fx.tB (e2 f m n)) := ⟨PTm (pt_cmpR ho ha.p hb.p hm) fun σ H Q q => ttest (fun σ H Q h => op2_tr ok.pp (wt_rep _) h) q⟩
end
end Fx
end

section
set_option Elab.async false
set_option linter.all false
set_option maxRecDepth 100000
set_option maxHeartbeats 4000000
/-! Wu: tuples that are made, known to the object. -/
namespace Fx
open PySem PySem.Spec PyProof.Rows L2
def mkT (its : List Value) : Obj := { cls := .type "tuple", data := .seq its.toArray }
theorem tnew {X : Cx} {pins : List (Addr × Obj)} {σ : L2.St} {H : Hp} {s : Shared} {its : List Value} {ys : List V} {t' : Nat} (I : Inv X pins σ H s) (hv : Vals ys its) (hz : ys.length ≤ sizeLine) :
    Inv X pins σ (upd H s.heap.objs.size (.frz (mkT its) (.tup ys))) { s with heap := s.heap.push (mkT its), toks := t' } :=
  I.laid (fun _ _ q => Heap.get?_push_of_some _ q) (Nat.le_refl _) ⟨Heap.get?_push_size _ rfl, hz, its, hv, ⟨_, Heap.get?_push_size _ rfl, rfl, _, rfl⟩⟩
/-- a new tuple -/
def newT (H : Hp) (Q : VK) (ys : List V) : Prop := ∀ p ob, H p = none → ob.dict = none → Q (.ref p) (upd H p (.frz ob (.tup ys)))
theorem newT.fin {X : Cx} {pins : List (Addr × Obj)} {σ : L2.St} {H : Hp} {s : Shared} {its : List Value} {ys : List V} {t' : Nat} {Q : VK} (q : newT H Q ys) (I : Inv X pins σ H s) (hv : Vals ys its) (hz : ys.length ≤ sizeLine) :
    EP X pins σ Q (.ref s.heap.objs.size) { s with heap := s.heap.push (mkT its), toks := t' } := ⟨.ref _, _, tnew I hv hz, rfl, q _ _ I.fresh rfl⟩
section
variable {X : Cx}
def tTupF (t : TA) : TE := fun σ H Q => t σ H fun xs H1 => xs.length ≤ sizeLine ∧ newT H1 Q xs
theorem pe_tupF {es : List Expr} {t : TA} {x1 : Nat} {pos : Pos} (h : PA X es t) : PE X (.Tuple es x1 pos) (tTupF t) :=
  ⟨fun pins s σ H Q I hq => wpAny_Tuple_spliced (thn (h.run pos pins s σ H _ I hq) fun us s1 ⟨xs, H1, I1, r, z, q⟩ => ⟨by rw [← r.length]; exact z, q.fin (t' := s1.toks) I1 r z⟩)⟩
theorem call_tupleF : CallR X (.type "tuple") (fun xs H Q => ∃ p ys, xs = [.ref p] ∧ ((SqL X.K H p ys ∧ newT H Q ys) ∨ (SqT X.K H p ys ∧ Q (.ref p) H))) := by
  intro pins s σ H xs us Q I rr hh
  obtain ⟨p, ys, rfl, hh⟩ := hh
  obtain ⟨u, rfl, rx⟩ := vals1 rr
  cases rx
  rcases hh with ⟨hq, q⟩ | ⟨hq, q⟩
  · obtain ⟨its, r1, pl, hz⟩ := I.list hq
    have hl := r1.length
    exact call_tuple_list pl.isList (fun h' kp => q.fin (t' := s.toks) (I.kept (t' := s.toks) kp) r1 hz) (by simp only [List.size_toArray] <;> omega)
  · obtain ⟨its, _, pl, _⟩ := I.tuple hq
    exact call_tuple_same pl ⟨.ref p, H, I, rfl, q⟩
/-- t + u -/
def rCatF (K : PySem.W.Frag) : R2 := fun x y H Q => ∃ a b xs ys, x = .ref a ∧ y = .ref b ∧ SqT K H a xs ∧ SqT K H b ys ∧ xs.length + ys.length ≤ sizeLine ∧
  (xs = [] → Q (.ref b) H) ∧ (xs ≠ [] → ys = [] → Q (.ref a) H) ∧ (xs ≠ [] → ys ≠ [] → newT H Q (xs ++ ys))
theorem op_catF : OpR X (binaryOp .Add) (rCatF X.K) := by
  intro pins s σ H x y v u Q I rx ry hh
  obtain ⟨a, b, xs, ys, rfl, rfl, ha, hb, hz, q0, q1, q2⟩ := hh
  by_cases hx : xs = []
  · exact op_catA pins s σ H _ _ v u Q I rx ry ⟨a, b, xs, ys, rfl, rfl, ha, hb, hz, q0, q1, fun z => absurd hx z⟩
  · cases rx
    cases ry
    obtain ⟨i1, r1, p1, _⟩ := I.tuple ha
    obtain ⟨i2, r2, p2, _⟩ := I.tuple hb
    refine HT.cat_tup p1 p2 (fun z => hx (r1.nil_iff.mp z)) (fun z => ⟨.ref a, H, I, rfl, q1 hx (r2.nil_iff.mp z)⟩) (fun z => ?_) (by rw [← r1.length, ← r2.length]; exact hz)
    exact (q2 hx fun w => z (r2.nil_iff.mpr w)).fin (t' := s.toks) I (r1.append r2) (by rw [List.length_append]; exact hz)
/-- t[lo:hi] -/
def rSlF (K : PySem.W.Frag) : V → Option Int → Option Int → Hp → VK → Prop := fun x lo hi H Q => ∃ a xs, x = .ref a ∧ SqT K H a xs ∧
  (HT.sIx xs.length 0 lo = 0 ∧ HT.sIx xs.length xs.length hi = xs.length → Q (.ref a) H) ∧ (¬ (HT.sIx xs.length 0 lo = 0 ∧ HT.sIx xs.length xs.length hi = xs.length) → newT H Q (cutV xs lo hi))
theorem sl_tupF : SlR X (rSlF X.K) := by
  intro pins s σ H x v vl vu lo hi sl Q I rx hs pl pu hh
  obtain ⟨a, xs, rfl, hx, q1, q2⟩ := hh
  by_cases hw : HT.sIx xs.length 0 lo = 0 ∧ HT.sIx xs.length xs.length hi = xs.length
  · exact sl_tupA pins s σ H _ v vl vu lo hi sl Q I rx hs pl pu ⟨a, xs, rfl, hx, q1, fun z => absurd hw z⟩
  · cases rx
    obtain ⟨its, r, ht, hz⟩ := I.tuple hx
    have hn : its.toArray.size = xs.length := by rw [List.size_toArray]; exact r.length.symm
    refine ⟨"tuple", _, PyProof.Rows.slot_tuple_getitem.lookup, ht.typeIs, HT.getItem_tuple_cut ht hs pl pu (by rw [hn]; exact hw) ?_ (by rw [hn]; exact hz)⟩
    rw [hn]
    exact (q2 hw).fin (t' := s.toks) I ((r.drop _).take _) (Nat.le_trans (cutV_length xs lo hi) hz)
end
end Fx
end

section
set_option Elab.async false
set_option linter.all false
set_option maxRecDepth 100000
set_option maxHeartbeats 4000000
/-! We: displays, sums, places, built-ins. -/
namespace Fx
open PySem PySem.Spec PyProof.Rows L2

section
variable {X : Cx} {W : WX} {a b c : Expr} {pos : Pos} {m n : M Vl}
/-- a waiting value is read for good -/
theorem froze_wait {K : PySem.W.Frag} {S S1 : SP'} {H H1 : Hp} {fp fp1 fx : List Addr} {e1 : En} {σ : L2.St} {x : Vl} {d : D} {v : V} (ext : Ext S H fp S1 H1 (fx ++ fp1)) (wd : Wd K S1 H1 e1 fp1 σ) (sep : Sep S1 H1 (fx ++ fp1)) (e : x.d = some d) (r : repV K S1 H1 x fx v) :
    Ext S H fp (fun a => S1 a ∨ a ∈ fx) H1 fp1 ∧ Wd K (fun a => S1 a ∨ a ∈ fx) H1 e1 fp1 σ ∧ rep K (fun a => S1 a ∨ a ∈ fx) H1 d v := by
  have st : Stb S1 H1 (fun a => S1 a ∨ a ∈ fx) H1 := ⟨fun a h => .inl h, fun a o h _ => h⟩
  refine ⟨⟨ext.keep, fun a q => ext.fresh a (List.mem_append_right _ q), fun a h => .inl (ext.mono a h), fun a h => ?_⟩, ⟨envR.stb st _ _ _ (fun _ _ => rfl) wd.env, ⟨wd.sep.nd, fun a q z => ?_, wd.sep.ow⟩, fun a h => ?_⟩, r.froze st e fun a q => .inr q⟩
  · rcases h with h | h
    · exact ext.sfr a h
    · exact .inr (ext.fresh a (List.mem_append_left _ h))
  · rcases z with z | z
    · exact wd.sep.ns a q z
    · exact sep.apart z q
  · rcases h with h | h
    · exact wd.dom a h
    · exact r.lists e a h
theorem da_nil : DA X W [] eNil := ⟨PAm pa_nil fun σ H Q ⟨S, e, fp, wd, p⟩ => p S H fp [] [] (Ext.refl S H fp) wd wd.sep ⟨rfl, reps.nil⟩⟩
theorem da_cons {es : List Expr} {r : M (List D)} (ha : DE X W a m) (hr : DA X W es r) (hs : starEach (a :: es) X.env = (false, eval a X.env) :: starEach es X.env := by rfl) : DA X W (a :: es) (eCons m r) := by
  refine ⟨PAm (pa_cons ha.p hr.p hs) fun σ H Q h => ?_⟩
  refine TR.bind (k := fun x e => match x.d with | some d => (r e).then fun ds e => .ok (d :: ds) e | none => .bad) h fun S e fp S1 H1 e1 fp1 fx x v wd ext wd1 sep1 rx p => ?_
  cases hx : x.d with
  | none => simp only [hx] at p; exact p.elim
  | some d =>
    simp only [hx] at p
    obtain ⟨ext1, wd1', rd⟩ := froze_wait ext wd1 sep1 hx rx
    refine TR.next (fx := []) (k := fun ds e => .ok (d :: ds) e) wd1' ext1 wd1'.sep p fun S2 H2 e2 fp2 fy ds vs ext2 st keep wd2 sep2 ry p2 => ?_
    obtain ⟨rfl, ry⟩ := ry
    exact p2 S2 H2 fp2 [] _ ext2 wd2 sep2 ⟨rfl, reps.cons (rep.stb st d v rd) ry⟩
theorem lim_eq : lim = sizeLine := by rw [sizeLine_eq]; rfl
theorem fresh_tup {K : PySem.W.Frag} {S : SP'} {H : Hp} {ds : List D} {vs : List V} {p : Addr} {ob : Obj} (r : reps K S H ds vs) (hp : H p = none) (ho : ob.dict = none) :
    (∀ a o, H a = some o → upd H p (.frz ob (.tup vs)) a = some o) ∧ rep K S (upd H p (.frz ob (.tup vs))) (.tup ds) (.ref p) := by
  have k : ∀ a o, H a = some o → upd H p (.frz ob (.tup vs)) a = some o := fun a o h => by rw [upd_ne (ne_of_none h hp)]; exact h
  refine ⟨k, ?_⟩
  unfold rep
  exact ⟨p, vs, rfl, ⟨ob, upd_same, ho⟩, reps.stb (Stb.grow k) ds vs r⟩
theorem fresh_lst {K : PySem.W.Frag} {S : SP'} {H : Hp} {ds : List D} {vs : List V} {p : Addr} (r : reps K S H ds vs) (hp : H p = none) (dom : ∀ a, S a → ∃ xs, H a = some (.lst xs)) :
    (∀ a o, H a = some o → upd H p (.lst vs) a = some o) ∧ (∀ a ∈ [p], H a = none) ∧ Sep S (upd H p (.lst vs)) [p] ∧ repV K S (upd H p (.lst vs)) (.o ds) [p] (.ref p) := by
  have k : ∀ a o, H a = some o → upd H p (.lst vs) a = some o := fun a o h => by rw [upd_ne (ne_of_none h hp)]; exact h
  refine ⟨k, fun a q => ?_, ⟨by simp, fun a q z => ?_, fun a q => ?_⟩, p, vs, rfl, rfl, upd_same, reps.stb (Stb.grow k) ds vs r⟩
  · simp at q; subst q; exact hp
  · simp at q; subst q
    obtain ⟨xs, e⟩ := dom a z
    rw [hp] at e; cases e
  · simp at q; subst q; exact ⟨_, upd_same, trivial⟩
theorem de_tup {es : List Expr} {r : M (List D)} {k : Nat} (h : DA X W es r) (hz : es.length ≤ 1000 := by decide) (hl : ∀ e ds e', r e = .ok ds e' → ds.length ≤ es.length := by assumption) : DE X W (.Tuple es k pos) (eTup r) := by
  refine ⟨PEm (pe_tupF h.p) fun σ H Q h => ?_⟩
  obtain ⟨S, e, fp, wd, p⟩ := h
  refine ⟨S, e, fp, wd, ?_⟩
  unfold eTup at p
  cases q : r e with
  | ok ds e' =>
    simp only [q, Rs.then] at p
    intro S' H' fp' fx vs ext wd' sep rl
    obtain ⟨rfl, rl⟩ := rl
    refine ⟨?_, fun pp ob hp ho => ?_⟩
    · have := hl e ds e' q
      rw [← rl.length]
      rw [sizeLine_eq]
      omega
    · obtain ⟨k, rt⟩ := fresh_tup rl hp ho
      exact p S' _ fp' [] _ (ext.grow k (fun a q => absurd q (by simp))) (wd'.grow k) (wd'.grow k).sep ⟨rfl, rt⟩
  | ex x e' => simp only [q, Rs.then] at p; exact p
  | bad => simp only [q, Rs.then] at p; exact p
theorem nil_len : ∀ e ds e', eNil e = .ok ds e' → ds.length ≤ ([] : List Expr).length := fun e ds e' h => by cases h; exact Nat.le_refl _
theorem cons_len {r : M (List D)} {es : List Expr} (h : ∀ e ds e', r e = .ok ds e' → ds.length ≤ es.length) : ∀ e ds e', eCons m r e = .ok ds e' → ds.length ≤ (a :: es).length := fun e ds e' q => by
  unfold eCons at q
  cases q1 : m e with
  | ok x e1 =>
    simp only [q1, Rs.then] at q
    cases hx : x.d with
    | none => simp [hx] at q
    | some d =>
      simp only [hx] at q
      cases q2 : r e1 with
      | ok ds' e2 =>
        simp only [q2] at q
        cases q
        have := h _ _ _ q2
        simp only [List.length_cons]
        omega
      | ex x e2 => simp [q2] at q
      | bad => simp [q2] at q
  | ex x e1 => simp [q1, Rs.then] at q
  | bad => simp [q1, Rs.then] at q
/-- a list of arguments with its length -/
structure DAn (X : Cx) (W : WX) (es : List Expr) (r : M (List D)) : Prop where
  d : DA X W es r
  n : ∀ e ds e', r e = .ok ds e' → ds.length ≤ es.length
theorem dn_nil : DAn X W [] eNil := ⟨da_nil, nil_len⟩
theorem dn_cons {es : List Expr} {r : M (List D)} (ha : DE X W a m) (hr : DAn X W es r) (hs : starEach (a :: es) X.env = (false, eval a X.env) :: starEach es X.env := by rfl) : DAn X W (a :: es) (eCons m r) := ⟨da_cons ha hr.d hs, cons_len hr.n⟩
theorem de_tupn {es : List Expr} {r : M (List D)} {k : Nat} (h : DAn X W es r) (hz : es.length ≤ 1000 := by decide) : DE X W (.Tuple es k pos) (eTup r) := de_tup h.d hz h.n
theorem de_lst {es : List Expr} {r : M (List D)} (h : DAn X W es r) (hz : es.length ≤ 1000 := by decide) : DE X W (.List es pos) (eLst r) := by
  refine ⟨PEm (pe_lst h.d.p) fun σ H Q q => ?_⟩
  obtain ⟨S, e, fp, wd, p⟩ := q
  refine ⟨S, e, fp, wd, ?_⟩
  unfold eLst at p
  cases q : r e with
  | ok ds e' =>
    simp only [q, Rs.then] at p
    intro S' H' fp' fx vs ext wd' sep rl
    obtain ⟨rfl, rl⟩ := rl
    refine ⟨?_, fun pp hp => ?_⟩
    · have := h.n e ds e' q
      rw [← rl.length]
      rw [sizeLine_eq]
      omega
    · obtain ⟨k, fr, sp, rt⟩ := fresh_lst rl hp wd'.dom
      exact p S' _ fp' [pp] _ (ext.grow k fr) (wd'.grow k) (wd'.sep.grow sp k fr) rt
  | ex x e' => simp only [q, Rs.then] at p; exact p
  | bad => simp only [q, Rs.then] at p; exact p

/-! ### a if t else b; and, or, not as values -/
theorem tail_tr {α β : Type} {R : SP' → Hp → α → List Addr → β → Prop} {K : PySem.W.Frag} {mg : Str → Option Value} {S S1 : SP'} {H H1 : Hp} {fp fp1 : List Addr} {e1 : En} {σ : L2.St} {m : M α} {Q : β → Hp → Prop} (wd1 : Wd K S1 H1 e1 fp1 σ) (ext : Ext S H fp S1 H1 fp1)
    (p : (m e1).post (fun y e' => ∀ S' H' fp' fy u, Ext S H fp S' H' (fy ++ fp') → Wd K S' H' e' fp' σ → Sep S' H' (fy ++ fp') → R S' H' y fy u → Q u H') (fun x e' => exW K mg W S H fp σ x e')) : TR K mg W R m σ H1 Q := by
  refine ⟨S1, e1, fp1, wd1, ?_⟩
  cases q : m e1 with
  | ok x e' =>
    rw [q] at p
    exact fun S' H' fp' fy v a b c d => p S' H' fp' fy v (ext.trans a) b c d
  | ex x e' => rw [q] at p; exact p.more ext
  | bad => rw [q] at p; exact p
theorem de_if {t : M Bool} (ht : DT X W c t) (ha : DE X W a m) (hb : DE X W b n) : DE X W (.IfExp c a b pos) (eIf t m n) := by
  refine ⟨PEm (pe_ifExp ht.p ha.p hb.p) fun σ H Q h => ?_⟩
  refine TR.bind (k := fun c e => if c then m e else n e) h fun S e fp S1 H1 e1 fp1 fx x v wd ext wd1 sep1 rx p => ?_
  obtain ⟨rfl, rfl⟩ := rx
  cases v with
  | true => exact tail_tr (m := m) wd1 ext p
  | false => exact tail_tr (m := n) wd1 ext p
end
section
variable {X : Cx} {W : WX} {a b c : Expr} {pos : Pos} {m n : M Vl} {rest : List Expr}
theorem de_one {op : BoolOp} (h : DE X W a m) : DE X W (.BoolOp op [a] pos) m := ⟨pe_one h.p⟩
theorem de_and (ha : DE X W a m) (hb : DE X W (.BoolOp .And (b :: rest) pos) n) : DE X W (.BoolOp .And (a :: b :: rest) pos) (eAnd m n) := by
  refine ⟨PEm (pe_and ha.p hb.p) fun σ H Q h => ?_⟩
  refine TR.bind (k := fun x e => match x.bool with | some true => n e | some false => .ok (.v (.bl false)) e | none => .bad) h fun S e fp S1 H1 e1 fp1 fx x v wd ext wd1 sep1 rx p => ?_
  cases hx : x.bool with
  | none => simp only [hx] at p; exact p.elim
  | some k =>
    obtain ⟨rfl, rfl⟩ := ok_bool hx rx
    refine ⟨k, rfl, ?_⟩
    cases k with
    | true => simp only [hx] at p; exact tail_tr (m := n) wd1 ext p
    | false => simp only [hx] at p; exact p S1 H1 fp1 [] _ ext wd1 sep1 ⟨rfl, rep_bl _⟩
theorem de_or (ha : DE X W a m) (hb : DE X W (.BoolOp .Or (b :: rest) pos) n) : DE X W (.BoolOp .Or (a :: b :: rest) pos) (eOr m n) := by
  refine ⟨PEm (pe_or ha.p hb.p) fun σ H Q h => ?_⟩
  refine TR.bind (k := fun x e => match x.bool with | some true => .ok (.v (.bl true)) e | some false => n e | none => .bad) h fun S e fp S1 H1 e1 fp1 fx x v wd ext wd1 sep1 rx p => ?_
  cases hx : x.bool with
  | none => simp only [hx] at p; exact p.elim
  | some k =>
    obtain ⟨rfl, rfl⟩ := ok_bool hx rx
    refine ⟨k, rfl, ?_⟩
    cases k with
    | false => simp only [hx] at p; exact tail_tr (m := n) wd1 ext p
    | true => simp only [hx] at p; exact p S1 H1 fp1 [] _ ext wd1 sep1 ⟨rfl, rep_bl _⟩
theorem de_not (ha : DE X W a m) : DE X W (.UnaryOp .Not a pos) (e1 oNot m) := by
  refine ⟨PEm (pe_not ha.p) fun σ H Q h => ?_⟩
  refine TR.bind (k := fun x e => lift (oNot x) e) h fun S e fp S1 H1 e1 fp1 fx x v wd ext wd1 sep1 rx p => ?_
  unfold oNot at p
  cases hx : x.bool with
  | none => simp only [hx] at p; exact p.elim
  | some k =>
    simp only [hx, Option.map_some, lift] at p
    obtain ⟨rfl, rfl⟩ := ok_bool hx rx
    exact ⟨k, rfl, p S1 H1 fp1 [] _ ext wd1 sep1 ⟨rfl, rep_bl _⟩⟩

/-! ### + and * -/
theorem Inv.rdl {pins : List (Addr × Obj)} {σ : L2.St} {H : Hp} {s : Shared} {l : Addr} {xs : List V} (I : Inv X pins σ H s) (hH : SqL X.K H l xs) : xs.length ≤ sizeLine ∧ ∃ (its : List Value) (n : Nat) (dd : Option Addr) (sl : Array (Option Value)), Vals xs its ∧ xs.length = its.length ∧ s.heap.get? l = some { cls := .type "list", dict := dd, data := .seq its.toArray n, slots := sl } := by
  obtain ⟨its, r, ⟨⟨cls, dd, data, sl⟩, n, e, hc, hd, hs⟩, z⟩ := I.list hH
  simp only at hc hs
  subst hc hs
  exact ⟨z, its, n, dd, sl, r, r.length, e⟩
def rCatL (K : PySem.W.Frag) : R2 := fun x y H Q => ∃ l b xs zs, x = .ref l ∧ y = .ref b ∧ SqL K H l xs ∧ SqL K H b zs ∧ xs.length + zs.length ≤ sizeLine ∧ ∀ p, H p = none → Q (.ref p) (upd H p (.lst (xs ++ zs)))
theorem op_catL : OpR X (binaryOp .Add) (rCatL X.K) := by
  intro pins s σ H x y v u Q I rx ry h
  obtain ⟨l, b, xs, zs, rfl, rfl, hH, hB, hz, q⟩ := h
  cases rx
  cases ry
  obtain ⟨z, its, n, dd, sl, r, hl, e⟩ := Inv.rdl I hH
  obtain ⟨z2, its2, n2, dd2, sl2, r2, hl2, e2⟩ := Inv.rdl I hB
  have hsz : its.toArray.size + its2.toArray.size ≤ sizeLine := by rw [List.size_toArray, List.size_toArray]; omega
  suffices hx : EP X pins σ Q (.ref s.heap.objs.size) { s with heap := s.heap.push { cls := .type "list", data := .seq (its.toArray ++ its2.toArray) } } from
    concat_meets ⟨_, e, rfl⟩ ⟨_, e2, rfl⟩ noFill_list_add seq_list_add PySem.F.slot_list_add PySem.F.entry_list_add (PySem.F.args_list_add_2 _ _) (list_addW l b its.toArray its2.toArray n n2 dd dd2 sl sl2 hsz) ⟨e, e2, hx⟩
  have ea : its.toArray ++ its2.toArray = (its ++ its2).toArray := by simp
  rw [ea]
  exact ⟨.ref _, _, I.lnew (t' := s.toks) (r.append r2) (by rw [List.length_append]; omega), rfl, q _ I.fresh⟩
theorem RP.rdl {K : PySem.W.Frag} {S : SP'} {H : Hp} {x : Vl} {l : List D} {fx : List Addr} {v : V} (e : x = .v (.lst l) ∨ x = .o l) (h : RP K S H x fx v) : ∃ a vs, v = .ref a ∧ SqL K H a vs ∧ reps K S H l vs := by
  rcases e with rfl | rfl
  · obtain ⟨_, a, vs, h1, h2, h3⟩ := h
    exact ⟨a, vs, h1, h2, h3⟩
  · obtain ⟨a, vs, h1, _, h2, h3⟩ := h
    exact ⟨a, vs, h1, .inl (.inl h2), h3⟩
def rAdd' (K : PySem.W.Frag) : R2 := fun x y H Q => (rI0 (fun i j => .int (i + j)) x y H Q ∨ rCatF K x y H Q) ∨ rCatL K x y H Q
theorem op_add' : OpR X (binaryOp .Add) (rAdd' X.K) := (op_add.or op_catF).or op_catL
theorem ok_cat {K : PySem.W.Frag} {S : SP'} {H : Hp} {x y : Vl} {l m : List D} {fx fy : List Addr} {u v : V} {Q : VK} (ex : x = .v (.lst l) ∨ x = .o l) (ey : y = .v (.lst m) ∨ y = .o m) (hz : l.length + m.length ≤ lim) (dom : ∀ a, S a → ∃ xs, H a = some (.lst xs)) (rx : RP K S H x fx u) (ry : RP K S H y fy v)
    (h : ∀ H' fz w, (∀ a o, H a = some o → H' a = some o) → (∀ a ∈ fz, H a = none) → Sep S H' fz → repV K S H' (.o (l ++ m)) fz w → Q w H') : rAdd' K u v H Q := by
  obtain ⟨a, vs, h1, h2, h3⟩ := rx.rdl ex
  obtain ⟨b, ws, h4, h5, h6⟩ := ry.rdl ey
  refine .inr ⟨a, b, vs, ws, h1, h4, h2, h5, by rw [← h3.length, ← h6.length, ← lim_eq]; exact hz, fun p hp => ?_⟩
  obtain ⟨k, fr, sp, rt⟩ := fresh_lst (h3.app h6) hp dom
  exact h _ [p] _ k fr sp rt
theorem ok_add {K : PySem.W.Frag} : Op2 K (RP K) (RP K) oAdd (rAdd' K) := by
  intro S H x y z fx fy u v Q e dom sep rx ry h
  unfold oAdd at e
  split at e
  · cases e
    have h1 := rx.2; have h2 := ry.2
    unfold rep at h1 h2
    exact .inl (.inl ⟨_, _, h1, h2, pure_end (rep_int _) h⟩)
  · rename_i l m
    split at e
    · rename_i hz
      cases e
      have h1 : rep K S H (.tup l) u := rx.2
      have h2 : rep K S H (.tup m) v := ry.2
      have h1' := h1; have h2' := h2
      unfold rep at h1 h2
      obtain ⟨a, vs, e1, q1, r1⟩ := h1
      obtain ⟨b, ws, e2, q2, r2⟩ := h2
      subst e1 e2
      refine .inl (.inr ⟨a, b, vs, ws, rfl, rfl, q1.sq, q2.sq, by rw [← r1.length, ← r2.length, ← lim_eq]; exact hz, fun hv => ?_, fun hv hw => ?_, fun _ _ p ob hp ho => ?_⟩)
      · have : l = [] := List.eq_nil_of_length_eq_zero (by rw [r1.length, hv]; rfl)
        subst this
        exact pure_end h2' h
      · have : m = [] := List.eq_nil_of_length_eq_zero (by rw [r2.length, hw]; rfl)
        subst this
        exact pure_end (d := .tup (l ++ [])) (by rw [List.append_nil]; exact h1') h
      · obtain ⟨k, rt⟩ := fresh_tup (r1.app r2) hp ho
        exact h _ [] _ k (fun _ q => absurd q (by simp)) Sep.nil ⟨rfl, rt⟩
    · cases e
  all_goals first
    | (split at e
       · cases e
         rename_i hz
         exact ok_cat (by first | exact .inl rfl | exact .inr rfl) (by first | exact .inl rfl | exact .inr rfl) hz dom rx ry h
       · cases e)
    | cases e
theorem de_add (ha : DE X W a m) (hb : DE X W b n) : DE X W (.BinOp a .Add b pos) (e2 oAdd m n) := de_op op_add' (ok_add.vv) ha hb
theorem de_sub (ha : DE X W a m) (hb : DE X W b n) : DE X W (.BinOp a .Sub b pos) (e2 oSub m n) := de_op op_sub ok_sub ha hb
theorem de_mod (ha : DE X W a m) (hb : DE X W b n) : DE X W (.BinOp a .Mod b pos) (e2 oMod m n) := de_op op_mod ok_mod ha hb
theorem de_div (ha : DE X W a m) (hb : DE X W b n) : DE X W (.BinOp a .FloorDiv b pos) (e2 oDiv m n) := de_op op_fdivW ok_div ha hb
theorem de_pow (ha : DE X W a m) (hb : DE X W b n) : DE X W (.BinOp a .Pow b pos) (e2 oPow m n) := de_op op_pow ok_pow ha hb
end
end Fx
end

section
set_option Elab.async false
set_option linter.all false
set_option maxRecDepth 100000
set_option maxHeartbeats 4000000
/-! Wm: times. -/
namespace Fx
open PySem PySem.Spec PyProof.Rows L2
theorem tup_mul1 (l : Addr) (items : Array Value) (n : Nat) (dd : Option Addr) (sl : Array (Option Value)) (u : Tok) :
    Meets (Builtin.«tuple.__mul__» ⟨[.ref l, .int 1 u], []⟩) (fun _ R s => s.heap.get? l = some { cls := .type "tuple", dict := dd, data := .seq items n, slots := sl } ∧ R (.ok (.ret (.ref l))) s) :=
  .of_wp fun prog w A R s h => by
    obtain ⟨hp, g, d, tk, os⟩ := s
    obtain ⟨hl, h⟩ := h
    have f1 := AutoSeq1.idx_int
    wp_walk using wpAny_loadPart' hl
    repeat (first
      | (refine wpAny_ite_false (decide_eq_false (by decide)) ?_; wp_walk using wpAny_loadPart' hl)
      | (refine wpAny_ite_true (decide_eq_true (by simp)) ?_; wp_walk using wpAny_loadPart' hl))
    exact ⟨_, rfl, h⟩
theorem tup_mul0 (l : Addr) (items : Array Value) (n : Nat) (dd : Option Addr) (sl : Array (Option Value)) (u : Tok) (he : items.isEmpty = false) :
    Meets (Builtin.«tuple.__mul__» ⟨[.ref l, .int 0 u], []⟩) (fun _ R s => s.heap.get? l = some { cls := .type "tuple", dict := dd, data := .seq items n, slots := sl } ∧
      R (.ok (.ret (Value.ref s.heap.objs.size))) { s with heap := s.heap.push { cls := Value.type "tuple", data := Data.seq #[] }, toks := s.toks }) :=
  .of_wp fun prog w A R s h => by
    obtain ⟨hp, g, d, tk, os⟩ := s
    obtain ⟨hl, h⟩ := h
    have f1 := AutoSeq1.idx_int
    wp_walk using wpAny_loadPart' hl
    repeat (first
      | (refine wpAny_ite_false (decide_eq_false (by decide)) ?_; wp_walk using wpAny_loadPart' hl)
      | (refine wpAny_ite_false (decide_eq_false (by rw [he]; decide)) ?_; wp_walk using wpAny_loadPart' hl)
      | (refine wpAny_ite_true (decide_eq_true (by simp)) ?_; wp_walk using wpAny_loadPart' hl))
    exact ⟨_, rfl, h⟩

def rRepA (K : PySem.W.Frag) : R2 := fun x y H Q => ∃ l k xs, x = .ref l ∧ y = .int k ∧ SqT K H l xs ∧ xs ≠ [] ∧ 0 ≤ k ∧ k ≤ 1000 ∧ xs.length ≤ 1000 ∧ (k = 1 → Q (.ref l) H) ∧ (k ≠ 1 → newT H Q (List.replicate k.toNat xs).flatten)
section
variable {X : Cx} {W : WX} {a b : Expr} {pos : Pos} {m n : M Vl}
theorem op_repA : OpR X (binaryOp .Mult) (rRepA X.K) := by
  intro pins s σ H x y v u Q I rx ry h
  obtain ⟨l, k, xs, rfl, rfl, hT, hne, h0, h1, hz, q1, q2⟩ := h
  cases rx
  obtain ⟨t, rfl⟩ := ry
  obtain ⟨its, r, ⟨⟨cls, dd, data, sl⟩, ho, hc, n, hd⟩, hs⟩ := I.tuple hT
  simp only at hc hd
  subst hc hd
  have hle : its.length = xs.length := r.length.symm
  have hn : its ≠ [] := fun e => hne (by
    rw [e] at hle
    exact List.eq_nil_of_length_eq_zero hle.symm)
  have hi : its.toArray.isEmpty = false := by
    cases its with
    | nil => exact absurd rfl hn
    | cons a b => rfl
  by_cases hk1 : k = 1
  · subst hk1
    exact wpAny_binaryOp_repeat_ref (T := "tuple") (U := "int") (by decide) ⟨_, ho, rfl⟩ (fun s' => typeIs_int s' 1 t) noFill_tuple_mul F.fills_int_mul F.slot_int_rmul repeat_tuple F.slot_int_index.lookup
      (call_meets F.slot_int_rmul (typeIs_int s 1 t) F.entry_int_rmul (F.args_int_rmul_2 _ _) (int_rmul_tuple 1 t l its.toArray n dd sl)
        ⟨ho, rfl, ⟨_, ho, rfl⟩, call_meets F.slot_tuple_mul ⟨_, ho, rfl⟩ F.entry_tuple_mul (F.args_tuple_mul_2 _ _) (tup_mul1 l its.toArray n dd sl t) ⟨ho, ⟨.ref l, H, I, rfl, q1 rfl⟩⟩⟩)
  by_cases hk : 2 ≤ k
  · have z0 : its.toArray.size = xs.length := by rw [List.size_toArray, hle]
    have a1 : ((xs.length : Nat) : Int) * k ≤ 1000 * 1000 := Int.mul_le_mul (by omega) h1 (by omega) (by omega)
    have a2 : k.toNat * xs.length ≤ 1000 * 1000 := Nat.mul_le_mul (by omega) hz
    have f1 : (List.replicate k.toNat its).flatten.length ≤ sizeLine := by rw [PyProof.Rows.lm_len_rep_flat, hle, sizeLine_eq]; omega
    have c0 : (decide (k < -(2 ^ 63)) || decide (k ≥ 2 ^ 63)) = false := by simp; omega
    have c1 : (its.toArray.isEmpty || k == 1) = false := by rw [hi]; simp; omega
    have c2 : (decide (k ≤ 0) || its.toArray.isEmpty) = false := by rw [hi]; simp; omega
    have c4 : Builtin.Tuple.tupleTooMany (((its.toArray.size : Nat) : Int) * k) = false := by
      unfold Builtin.Tuple.tupleTooMany
      rw [sizeLine_eq, z0]
      exact decide_eq_false (by omega)
    refine wpAny_binaryOp_repeat_ref (T := "tuple") (U := "int") (by decide) ⟨_, ho, rfl⟩ (fun s' => typeIs_int s' k t) noFill_tuple_mul F.fills_int_mul F.slot_int_rmul repeat_tuple F.slot_int_index.lookup
      (call_meets F.slot_int_rmul (typeIs_int s k t) F.entry_int_rmul (F.args_int_rmul_2 _ _) (int_rmul_tuple k t l its.toArray n dd sl)
        ⟨ho, rfl, ⟨_, ho, rfl⟩, call_meets F.slot_tuple_mul ⟨_, ho, rfl⟩ F.entry_tuple_mul (F.args_tuple_mul_2 _ _) (tuple_mulW l its.toArray n dd sl k t c0 c1 c2 (by rw [z0]; omega) c4 (by rw [size_rep, List.size_toArray]; exact f1)) ⟨ho, ?_⟩⟩)
    rw [size_rep]
    exact (q2 (by omega)).fin (t' := s.toks) I (r.rep k.toNat) (by rw [PyProof.Rows.lm_len_rep_flat, sizeLine_eq]; omega)
  · have e0 : k = 0 := by omega
    subst e0
    refine wpAny_binaryOp_repeat_ref (T := "tuple") (U := "int") (by decide) ⟨_, ho, rfl⟩ (fun s' => typeIs_int s' 0 t) noFill_tuple_mul F.fills_int_mul F.slot_int_rmul repeat_tuple F.slot_int_index.lookup
      (call_meets F.slot_int_rmul (typeIs_int s 0 t) F.entry_int_rmul (F.args_int_rmul_2 _ _) (int_rmul_tuple 0 t l its.toArray n dd sl)
        ⟨ho, rfl, ⟨_, ho, rfl⟩, call_meets F.slot_tuple_mul ⟨_, ho, rfl⟩ F.entry_tuple_mul (F.args_tuple_mul_2 _ _) (tup_mul0 l its.toArray n dd sl t hi) ⟨ho, ?_⟩⟩)
    exact (q2 (by decide)).fin (t' := s.toks) (its := []) I (by simp; exact .nil) (by simp)
def rMul' (K : PySem.W.Frag) : R2 := fun x y H Q => ((rI CMul (fun i j => .int (i * j)) x y H Q ∨ rI CMulW (fun i j => .int (i * j)) x y H Q) ∨ rRep x y H Q) ∨ rRepA K x y H Q
theorem op_mul' : OpR X (binaryOp .Mult) (rMul' X.K) := ((op_mul.or op_mulW).or op_rep).or op_repA
theorem one_rep {α : Type} (l : List α) : (List.replicate (1 : Int).toNat l).flatten = l := by simp
theorem ok_mul {K : PySem.W.Frag} : Op2 K (repV K) (repV K) oMul (rMul' K) := by
  intro S H x y z fx fy u v Q e dom sep rx ry h
  unfold oMul at e
  split at e
  · rename_i i j
    split at e
    · rename_i hm
      cases e
      have h1 := rx.2; have h2 := ry.2
      unfold rep at h1 h2
      unfold mulOk at hm
      simp only [Bool.or_eq_true, decide_eq_true_eq] at hm
      have q := pure_end (rep_int (i * j)) h
      rcases hm with (hm | hm) | hm
      · exact .inl (.inl (.inl ⟨_, _, h1, h2, .inl (by omega), q⟩))
      · exact .inl (.inl (.inl ⟨_, _, h1, h2, .inr (by omega), q⟩))
      · exact .inl (.inl (.inr ⟨_, _, h1, h2, hm, q⟩))
    · cases e
  · rename_i l j
    split at e
    · rename_i hz
      cases e
      obtain ⟨hne, h0, h1, h2⟩ := hz
      have hl : rep K S H (.tup l) u := rx.2
      have hl' := hl
      have hj := ry.2
      unfold rep at hl hj
      obtain ⟨a, vs, e1, q1, r1⟩ := hl
      subst e1
      refine .inr ⟨a, j, vs, rfl, hj, q1.sq, fun ev => hne (List.eq_nil_of_length_eq_zero (by rw [r1.length, ev]; rfl)), h0, h1, by rw [← r1.length]; exact h2, fun e1 => ?_, fun _ p ob hp ho => ?_⟩
      · subst e1
        exact pure_end (d := .tup (List.replicate (1 : Int).toNat l).flatten) (by rw [one_rep]; exact hl') h
      · obtain ⟨k, rt⟩ := fresh_tup (r1.rep j.toNat) hp ho
        exact h _ [] _ k (fun _ q => absurd q (by simp)) Sep.nil ⟨rfl, rt⟩
    · cases e
  · rename_i l j
    split at e
    · rename_i hz
      cases e
      obtain ⟨h01, h2⟩ := hz
      obtain ⟨h0, h1⟩ := small_of h01
      obtain ⟨a, vs, e1, _, q1, r1⟩ := rx
      have hj := ry.2
      unfold rep at hj
      refine .inl (.inr ⟨a, j, vs, e1, hj, q1, by omega, by omega, by rw [← r1.length, ← lim_eq]; exact h2, fun p hp => ?_⟩)
      obtain ⟨k, fr, sp, rt⟩ := fresh_lst (r1.rep j.toNat) hp dom
      exact h _ [p] _ k fr sp rt
    · cases e
  · cases e
theorem de_mul (ha : DE X W a m) (hb : DE X W b n) : DE X W (.BinOp a .Mult b pos) (e2 oMul m n) := de_op op_mul' ok_mul ha hb
theorem ok_neg {K : PySem.W.Frag} : Op1 K (repV K) oNeg (rU fun i => .int (-i)) := by
  intro S H x z fx u Q e dom sep rx h
  unfold oNeg at e
  split at e
  · cases e
    have h1 := rx.2
    unfold rep at h1
    exact ⟨_, h1, pure_end (rep_int _) h⟩
  · cases e
theorem de_neg (ha : DE X W a m) : DE X W (.UnaryOp .USub a pos) (e1 oNeg m) := de_un un_neg ok_neg ha
end
end Fx
end

section
set_option Elab.async false
set_option linter.all false
set_option maxRecDepth 100000
set_option maxHeartbeats 4000000
/-! Wf: places, slices, built-ins. -/
namespace Fx
open PySem PySem.Spec PyProof.Rows L2

section
variable {X : Cx} {W : WX} {a b c : Expr} {pos : Pos} {m n : M Vl}
/-! ### places -/
theorem ixN_same (n : Nat) (i : Int) : Fx.ixN n i = L2.ixN n i := rfl
theorem atD_rep {K : PySem.W.Frag} {S : SP'} {H : Hp} {l : List D} {vs : List V} {i : Int} {d : D} (r : reps K S H l vs) (e : atD l i = some d) : ∃ v, atI vs i = some v ∧ rep K S H d v := by
  unfold atD at e
  cases q : Fx.ixN l.length i with
  | none => rw [q] at e; cases e
  | some j =>
    rw [q] at e
    obtain ⟨v, h1, h2⟩ := r.get e
    refine ⟨v, ?_, h2⟩
    unfold atI
    rw [← r.length, ← ixN_same, q]
    exact h1
def rIx' (K : PySem.W.Frag) : R2 := fun x y H Q => rIxL K x y H Q ∨ rIxT K x y H Q
theorem ix_seq' : IxR X (rIx' X.K) := ix_list.or ix_tup
theorem ok_ix {K : PySem.W.Frag} : Op2 K (RP K) (repV K) oIx (rIx' K) := by
  intro S H x y z fx fy u v Q e dom sep rx ry h
  unfold oIx at e
  split at e
  · rename_i l i hl
    cases q : atD l i with
    | none => rw [q] at e; cases e
    | some d =>
      rw [q] at e
      cases e
      obtain ⟨a, vs, h1, h2, h3⟩ := rx.items hl
      obtain ⟨w, h4, h5⟩ := atD_rep h3 q
      have hy := ry.2
      unfold rep at hy
      rcases h2 with h2 | h2
      · exact .inl ⟨a, vs, i, w, h1, hy, h2, h4, pure_end h5 h⟩
      · exact .inr ⟨a, vs, i, w, h1, hy, h2, h4, pure_end h5 h⟩
  · cases e
theorem de_ix (ha : DE X W a m) (hb : DE X W b n) (hs : PlainIx b := by exact fun _ _ => rfl) : DE X W (.Subscript a b pos) (e2 oIx m n) := by
  refine ⟨PEm (pe_ix ix_seq' ha.p hb.p hs) fun σ H Q h => op2_tr (RX := repV X.K) (RY := repV X.K) ?_ (wt_rep _) h⟩
  exact fun S H x y z fx fy u v Q e d s rx ry h => ok_ix S H x y z fx fy u v Q e d s rx.rp ry h
/-- what a place of the names holds, for a name that is looked at -/
theorem wd_at {K : PySem.W.Frag} {S : SP'} {H : Hp} {e : En} {fp : List Addr} {σ : L2.St} {k : Nat} {x : Vl} (wd : Wd K S H e fp σ) (h : e[k]? = some (some x)) : ∃ v fx, σ[k]? = some (some v) ∧ repV K S H x fx v ∧ ∀ a ∈ fx, a ∈ fp := by
  obtain ⟨v, f1, f2, f3, q1, q2, q3, q4⟩ := wd.env.at h
  refine ⟨v, f2, q1, q3, fun a q => ?_⟩
  subst q2
  simp [q]
theorem de_ixP (k : Nat) {x : Str} {p : Pos} (hb : DE X W b n) (hN : X.N[k]? = some x := by rfl) (hv : Vis X.env.scope x := by first | exact Or.inl rfl | exact Or.inr (Or.inl rfl) | exact Or.inr (Or.inr rfl)) (hd : (x == ("__debug__" : Str)) = false := by decide)
    (hcd : (x == ("__classdict__" : Str)) = false := by decide) (hs : PlainIx b := by exact fun _ _ => rfl) : DE X W (.Subscript (.Name x p) b pos) (eIxP k n) := by
  refine ⟨PEm (pe_ix ix_seq' (pe_var hN hv hd hcd) hb.p hs) fun σ H Q h => ?_⟩
  obtain ⟨S, e, fp, wd, p⟩ := h
  unfold eIxP at p
  split at p
  · rename_i x0 he
    obtain ⟨v, fx0, hv, _, _⟩ := wd_at wd he
    refine ⟨v, hv, ?_⟩
    refine TR.bind (R' := repV X.K) (k := fun y e => (match e[k]? with | some (some x) => lift (oIx x y) e | _ => .bad)) (Q := Q) ⟨S, e, fp, wd, p⟩ fun S0 e0 fp0 S1 H1 e1 fp1 fy y w wd0 ext wd1 sep1 ry p1 => ?_
    cases q : e1[k]? with
    | none => simp only [q] at p1; exact p1.elim
    | some o =>
      cases o with
      | none => simp only [q] at p1; exact p1.elim
      | some x =>
        simp only [q] at p1
        obtain ⟨v', fx, hv', rx, hsub⟩ := wd_at wd1 q
        rw [hv] at hv'
        cases hv'
        cases q2 : oIx x y with
        | none => rw [q2] at p1; exact p1.elim
        | some z =>
          rw [q2] at p1
          have hfy : fy = [] := by
            unfold oIx at q2
            split at q2
            · exact ry.1
            · cases q2
          subst hfy
          obtain ⟨d, hz⟩ : ∃ d, z = .v d := by
            unfold oIx at q2
            split at q2
            · rename_i l i hl
              cases q3 : atD l i with
              | none => rw [q3] at q2; cases q2
              | some d => rw [q3] at q2; cases q2; exact ⟨d, rfl⟩
            · cases q2
          subst hz
          unfold oIx at q2
          split at q2
          · rename_i l i hl
            cases q3 : atD l i with
            | none => rw [q3] at q2; cases q2
            | some d' =>
              rw [q3] at q2
              cases q2
              obtain ⟨a, vs, h1, h2, h3⟩ := rx.rp.items hl
              obtain ⟨w', h4, h5⟩ := atD_rep h3 q3
              have hy := ry.2
              unfold rep at hy
              have fin := p1 S1 H1 fp1 [] w' ext wd1 wd1.sep ⟨rfl, h5⟩
              rcases h2 with h2 | h2
              · exact .inl ⟨a, vs, i, w', h1, hy, h2, h4, fin⟩
              · exact .inr ⟨a, vs, i, w', h1, hy, h2, h4, fin⟩
          · cases q2
  · exact p.elim

/-! whole numbers that change nothing -/
structure DN (X : Cx) (e : Expr) (f : N) : Prop where
  p : PE X e (fun σ H Q => ∃ S en fp, Wd X.K S H en fp σ ∧ ∃ i, f en = some i ∧ Q (.int i) H)
theorem dn_i {i : Int} {j : Nat} : DN X (.Constant (.int i) j pos) (nI i) := ⟨PEm pe_int fun σ H Q ⟨S, e, fp, wd, i', h, q⟩ => by cases h; exact q⟩
theorem dn_v (k : Nat) {x : Str} (hN : X.N[k]? = some x := by rfl) (hv : Vis X.env.scope x := by first | exact Or.inl rfl | exact Or.inr (Or.inl rfl) | exact Or.inr (Or.inr rfl)) (hd : (x == ("__debug__" : Str)) = false := by decide)
    (hcd : (x == ("__classdict__" : Str)) = false := by decide) : DN X (.Name x pos) (nV k) := ⟨PEm (pe_var hN hv hd hcd) fun σ H Q ⟨S, e, fp, wd, i, h, q⟩ => by
  unfold nV at h
  split at h
  · rename_i i' he
    cases h
    obtain ⟨v, fx, h1, h2, _⟩ := wd_at wd he
    have := h2.2
    unfold rep at this
    subst this
    exact ⟨_, h1, q⟩
  · cases h⟩
theorem dn_add {f g : N} (ha : DN X a f) (hb : DN X b g) : DN X (.BinOp a .Add b pos) (nAdd f g) := ⟨PEm (pe_add ha.p hb.p) fun σ H Q ⟨S, e, fp, wd, i, h, q⟩ => by
  unfold nAdd at h
  cases h1 : f e with
  | none => rw [h1] at h; cases h
  | some i1 =>
    cases h2 : g e with
    | none => rw [h1, h2] at h; cases h
    | some i2 => rw [h1, h2] at h; cases h; exact ⟨S, e, fp, wd, i1, h1, S, e, fp, wd, i2, h2, i1, i2, rfl, rfl, q⟩⟩
theorem dn_sub {f g : N} (ha : DN X a f) (hb : DN X b g) : DN X (.BinOp a .Sub b pos) (nSub f g) := ⟨PEm (pe_sub ha.p hb.p) fun σ H Q ⟨S, e, fp, wd, i, h, q⟩ => by
  unfold nSub at h
  cases h1 : f e with
  | none => rw [h1] at h; cases h
  | some i1 =>
    cases h2 : g e with
    | none => rw [h1, h2] at h; cases h
    | some i2 => rw [h1, h2] at h; cases h; exact ⟨S, e, fp, wd, i1, h1, S, e, fp, wd, i2, h2, i1, i2, rfl, rfl, q⟩⟩
theorem dn_neg {f : N} (ha : DN X a f) : DN X (.UnaryOp .USub a pos) (nNeg f) := ⟨PEm (pe_un un_neg ha.p) fun σ H Q ⟨S, e, fp, wd, i, h, q⟩ => by
  unfold nNeg at h
  cases h1 : f e with
  | none => rw [h1] at h; cases h
  | some i1 => rw [h1] at h; cases h; exact ⟨S, e, fp, wd, i1, h1, i1, rfl, q⟩⟩
theorem rows.get {K : PySem.W.Frag} {S : SP'} {H : Hp} : ∀ {ls : List (List D)} {as : List Addr} {vs : List V} {i : Nat} {l : List D}, rows K S H ls as vs → ls[i]? = some l → ∃ b ws, as[i]? = some b ∧ vs[i]? = some (.ref b) ∧ H b = some (.lst ws) ∧ reps K S H l ws
  | [], _, _, _, _, _, e => by simp at e
  | l :: ls, _, _, 0, _, h, e => by
    unfold rows at h
    obtain ⟨b, r, ws, rs, h1, h2, h3, h4, h5⟩ := h
    simp at e
    subst h1 h2 e
    exact ⟨b, ws, rfl, rfl, h3, h4⟩
  | l :: ls, _, _, i + 1, _, h, e => by
    unfold rows at h
    obtain ⟨b, r, ws, rs, h1, h2, h3, h4, h5⟩ := h
    subst h1 h2
    simpa using rows.get (i := i) h5 (by simpa using e)
theorem rows.length {K : PySem.W.Frag} {S : SP'} {H : Hp} : ∀ {ls : List (List D)} {as : List Addr} {vs : List V}, rows K S H ls as vs → ls.length = vs.length ∧ ls.length = as.length
  | [], _, _, h => by unfold rows at h; rw [h.1, h.2]; exact ⟨rfl, rfl⟩
  | l :: ls, _, _, h => by
    unfold rows at h
    obtain ⟨b, r, ws, rs, h1, h2, h3, h4, h5⟩ := h
    subst h1 h2
    have := rows.length h5
    simp [this.1, ← this.2]
theorem ix_inv {α : Type} {l : List α} {i : Int} {d : α} (e : atD l i = some d) : ∃ j, Fx.ixN l.length i = some j ∧ l[j]? = some d := by
  unfold atD at e
  cases q : Fx.ixN l.length i with
  | none => rw [q] at e; cases e
  | some j => rw [q] at e; exact ⟨j, rfl, e⟩
theorem atI_of {vs : List V} {n : Nat} {i : Int} {j : Nat} {v : V} (hl : n = vs.length) (e : Fx.ixN n i = some j) (h : vs[j]? = some v) : atI vs i = some v := by
  unfold atI
  rw [← hl, ← ixN_same, e]
  exact h
theorem de_ixPP (k : Nat) {x : Str} {p p1 p2 : Pos} {f g : N} (ha : DN X a f) (hb : DN X b g) (hN : X.N[k]? = some x := by rfl) (hv : Vis X.env.scope x := by first | exact Or.inl rfl | exact Or.inr (Or.inl rfl) | exact Or.inr (Or.inr rfl)) (hd : (x == ("__debug__" : Str)) = false := by decide)
    (hcd : (x == ("__classdict__" : Str)) = false := by decide) (hs : PlainIx a := by exact fun _ _ => rfl) (hs2 : PlainIx b := by exact fun _ _ => rfl) : DE X W (.Subscript (.Subscript (.Name x p) a p1) b p2) (eIxPP k f g) := by
  refine ⟨PEm (pe_ix ix_seq' (pe_ix ix_seq' (pe_var hN hv hd hcd) ha.p hs) hb.p hs2) fun σ H Q h => ?_⟩
  obtain ⟨S, e, fp, wd, p⟩ := h
  unfold eIxPP at p
  split at p
  · rename_i l i j he hi hj
    cases q1 : atD l i with
    | none => simp [q1, lift, Rs.post] at p
    | some r =>
      cases q2 : atD r j with
      | none => simp [q1, q2, lift, Rs.post] at p
      | some d =>
        simp only [q1, q2, Option.bind_some, Option.map_some, lift, Rs.post] at p
        obtain ⟨v, fx, h1, h2, _⟩ := wd_at wd he
        obtain ⟨a0, vs, as, e1, _, e3, e4⟩ := h2
        subst e1
        obtain ⟨n1, g1, g2⟩ := ix_inv q1
        obtain ⟨b0, ws, k1, k2, k3, k4⟩ := e4.get g2
        obtain ⟨w, k5, k6⟩ := atD_rep k4 q2
        refine ⟨_, h1, S, e, fp, wd, i, hi, ?_⟩
        refine .inl ⟨a0, vs, i, .ref b0, rfl, rfl, .inl (.inl e3), atI_of e4.length.1 g1 k2, S, e, fp, wd, j, hj, ?_⟩
        exact .inl ⟨b0, ws, j, w, rfl, rfl, .inl (.inl k3), k5, p S H fp [] w (Ext.refl S H fp) wd wd.sep ⟨rfl, k6⟩⟩
  · exact p.elim

/-! ### slices -/
theorem do_no : DO X W none pNo := ⟨⟨fun pins s σ H Q I ⟨S, e, fp, wd, p⟩ => po_none.run pins s σ H Q I (p S H fp [] none (Ext.refl S H fp) wd wd.sep ⟨rfl, rfl⟩)⟩⟩
theorem do_some (h : DE X W a m) : DO X W (some a) (pSome m) := by
  refine ⟨⟨fun pins s σ H Q I q => (po_some h.p).run pins s σ H Q I ?_⟩⟩
  refine TR.bind (α := Vl) (R' := RO) (k := fun x e => lift (x.int.map some) e) (Q := Q) q fun S e fp S1 H1 e1 fp1 fx x v wd ext wd1 sep1 rx p => ?_
  unfold Vl.int at p
  split at p
  · rename_i i
    have hx := rx.2
    unfold rep at hx
    exact ⟨i, hx, p S1 H1 fp1 [] _ ext.drop wd1 wd1.sep ⟨rfl, rfl⟩⟩
  · exact p.elim
theorem sIx_same (n d : Nat) (o : Option Int) : Fx.sIx n d o = HT.sIx n d o := by
  cases o with
  | none => rfl
  | some v =>
    unfold Fx.sIx HT.sIx
    rfl
theorem cut_rep {K : PySem.W.Frag} {S : SP'} {H : Hp} {l : List D} {vs : List V} (lo hi : Option Int) (r : reps K S H l vs) : reps K S H (cutL l lo hi) (cutV vs lo hi) := by
  unfold cutL cutV
  rw [r.length, sIx_same, sIx_same]
  exact (r.drop _).take _
def rSl' (K : PySem.W.Frag) : V → Option Int → Option Int → Hp → VK → Prop := fun x lo hi H Q => rSlF K x lo hi H Q ∨ rSlL K x lo hi H Q
theorem sl_seq' : SlR X (rSl' X.K) := sl_tupF.or sl_list
theorem de_cut {lo hi : Option Expr} {l h : M (Option Int)} {p2 : Pos} (ha : DE X W a m) (hl : DO X W lo l) (hh : DO X W hi h) : DE X W (.Subscript a (.Slice lo hi none p2) pos) (eCut m l h) := by
  refine ⟨PEm (pe_slice sl_seq' ha.p hl.p hh.p) fun σ H Q q => ?_⟩
  refine TR.bind (R' := repV X.K) (k := fun x e => (l e).then fun l e => (h e).then fun h e => lift (oCut x l h) e) (Q := Q) q fun S e fp S1 H1 e1 fp1 fx x v wd ext wd1 sep1 rx p => ?_
  refine TR.next (R' := repV X.K) (k := fun l e => (h e).then fun h e => lift (oCut x l h) e) (Q := Q) wd1 ext sep1 p fun S2 H2 e2 fp2 fy o o' ext2 st keep wd2 sep2 ro p2 => ?_
  obtain ⟨rfl, rfl⟩ := ro
  refine TR.next (R' := repV X.K) (k := fun h e => lift (oCut x o' h) e) (Q := Q) wd2 ext2 sep2 p2 fun S3 H3 e3 fp3 fz o2 o2' ext3 st3 keep3 wd3 sep3 ro2 p3 => ?_
  obtain ⟨rfl, rfl⟩ := ro2
  have rx3 : repV X.K S3 H3 x fx v := (rx.stb st keep).stb st3 keep3
  have ext4 : Ext S H fp S3 H3 fp3 := ext3.drop
  unfold oCut at p3
  split at p3
  · rename_i t
    have hx : rep X.K S3 H3 (.tup t) v := rx3.2
    have hx' := hx
    unfold rep at hx
    obtain ⟨a0, vs, e0, e1, e2⟩ := hx
    subst e0
    simp only [lift, Rs.post] at p3
    refine .inl ⟨a0, vs, rfl, e1.sq, fun hw => ?_, fun _ pp ob hp ho => ?_⟩
    · refine p3 S3 H3 fp3 [] _ ext4 wd3 wd3.sep ⟨rfl, ?_⟩
      have hc := cut_rep o' o2' e2
      unfold rep
      refine ⟨a0, vs, rfl, e1, ?_⟩
      have hl : (cutL t o' o2').length = t.length := by
        rw [hc.length, e2.length]
        unfold cutV
        rw [List.length_take, List.length_drop]
        have h1 := HT.sIx_le vs.length 0 (Nat.zero_le _) o'
        have h2 := HT.sIx_le vs.length vs.length (Nat.le_refl _) o2'
        omega
      have : cutL t o' o2' = t := by
        unfold cutL at hl ⊢
        rw [List.length_take, List.length_drop] at hl
        have h1 : Fx.sIx t.length 0 o' ≤ t.length := by rw [sIx_same]; exact HT.sIx_le t.length 0 (Nat.zero_le _) o'
        have h2 : Fx.sIx t.length t.length o2' ≤ t.length := by rw [sIx_same]; exact HT.sIx_le t.length t.length (Nat.le_refl _) o2'
        by_cases ht : t.length = 0
        · have : t = [] := List.eq_nil_of_length_eq_zero ht
          subst this; simp
        · have z : Fx.sIx t.length 0 o' = 0 := by omega
          rw [z, List.drop_zero]
          exact List.take_of_length_le (by omega)
      rw [this]
      exact e2
    · obtain ⟨k, rt⟩ := fresh_tup (cut_rep o' o2' e2) hp ho
      exact p3 S3 _ fp3 [] _ (ext4.grow k (fun _ q => absurd q (by simp))) (wd3.grow k) (wd3.grow k).sep ⟨rfl, rt⟩
  all_goals first
    | (obtain ⟨a0, vs, e0, e1, e2⟩ := (rx3.rp).rdl (by first | exact .inl rfl | exact .inr rfl)
       subst e0
       simp only [lift, Rs.post] at p3
       refine .inr ⟨a0, vs, rfl, e1, fun pp hp => ?_⟩
       obtain ⟨k, fr, sp, rt⟩ := fresh_lst (cut_rep o' o2' e2) hp wd3.dom
       exact p3 S3 _ fp3 [pp] _ (ext4.grow k fr) (wd3.grow k) (wd3.sep.grow sp k fr) rt)
    | exact p3.elim

/-! ### built-ins of one value that is looked at -/
theorem de_b1 {id : String} {r : List V → Hp → VK → Prop} {f : Vl → Option Vl} {x : Str} {p : Pos} (hc : CallR X (.builtin id) r) (ok : Op1 X.K (RP X.K) f (fun x H Q => r [x] H Q)) (ha : DP X W a m) (hm : X.mg x = none) (hv : bootBuiltins x = some (.builtin id)) (hg : Gl X x := by rfl) (hn : x ≠ "__name__" := by decide) (hdb : (x == ("__debug__" : Str)) = false := by decide)
    (he : starEach (a :: []) X.env = (false, eval a X.env) :: starEach [] X.env := by rfl) (hpl : (backTo pos (starEach [] X.env)).any (·.1) = false := by rfl) : DE X W (.Call (.Name x p) [a] [] pos) (e1 f m) :=
  ⟨PEm (pe_callB hc hg hm hv (pa_cons ha.p pa_nil he) hn hdb he hpl) fun σ H Q h => op1_tr ok h⟩
theorem de_t1 {T : String} {r : List V → Hp → VK → Prop} {f : Vl → Option Vl} {x : Str} {p : Pos} (hc : CallR X (.type T) r) (ok : Op1 X.K (RP X.K) f (fun x H Q => r [x] H Q)) (ha : DP X W a m) (hm : X.mg x = none) (hv : bootBuiltins x = some (.type T)) (hg : Gl X x := by rfl) (hn : x ≠ "__name__" := by decide) (hdb : (x == ("__debug__" : Str)) = false := by decide)
    (he : starEach (a :: []) X.env = (false, eval a X.env) :: starEach [] X.env := by rfl) (hpl : (backTo pos (starEach [] X.env)).any (·.1) = false := by rfl) : DE X W (.Call (.Name x p) [a] [] pos) (e1 f m) :=
  ⟨PEm (pe_callTy hc hg hm hv (pa_cons ha.p pa_nil he) hn hdb he hpl) fun σ H Q h => op1_tr ok h⟩
theorem rd_sq {K : PySem.W.Frag} {H : Hp} {a : Addr} {vs : List V} (h : SqL K H a vs ∨ SqT K H a vs) : SqL K H a vs ∨ SqT K H a vs := h
theorem ok_len {K : PySem.W.Frag} : Op1 K (RP K) oLen (fun x H Q => ∃ p ys, [x] = [V.ref p] ∧ (SqL K H p ys ∨ SqT K H p ys) ∧ Q (.int ys.length) H) := by
  intro S H x z fx u Q e dom sep rx h
  unfold oLen at e
  cases q : x.items with
  | none => rw [q] at e; cases e
  | some l =>
    rw [q] at e
    cases e
    obtain ⟨a, vs, h1, h2, h3⟩ := rx.items q
    exact ⟨a, vs, by rw [h1], rd_sq h2, by rw [← h3.length]; exact pure_end (rep_int _) h⟩
theorem de_len {x : Str} {p : Pos} (ha : DP X W a m) (hm : X.mg x = none) (hv : bootBuiltins x = some (.builtin "len") := by exact PySem.boot_len) (hg : Gl X x := by rfl) (hn : x ≠ "__name__" := by decide) (hdb : (x == ("__debug__" : Str)) = false := by decide)
    (he : starEach (a :: []) X.env = (false, eval a X.env) :: starEach [] X.env := by rfl) (hpl : (backTo pos (starEach [] X.env)).any (·.1) = false := by rfl) : DE X W (.Call (.Name x p) [a] [] pos) (e1 oLen m) := de_b1 call_len_seq ok_len ha hm hv hg hn hdb he hpl
theorem RP.tupx {K : PySem.W.Frag} {S : SP'} {H : Hp} {x : Vl} {l : List D} {fx : List Addr} {v : V} (e : x.items = some l) (h : RP K S H x fx v) : (∃ a vs, v = .ref a ∧ SqL K H a vs ∧ reps K S H l vs) ∨ rep K S H (.tup l) v := by
  cases x with
  | v d =>
    cases d with
    | tup m =>
      simp only [Vl.items, D.items, Option.some.injEq] at e
      subst e
      exact .inr h.2
    | lst m =>
      simp only [Vl.items, D.items, Option.some.injEq] at e
      subst e
      obtain ⟨_, a, vs, h1, h2, h3⟩ := h
      exact .inl ⟨a, vs, h1, h2, h3⟩
    | _ => simp [Vl.items, D.items] at e
  | o m =>
    simp only [Vl.items, Option.some.injEq] at e
    subst e
    obtain ⟨a, vs, h1, _, h2, h3⟩ := h
    exact .inl ⟨a, vs, h1, .inl (.inl h2), h3⟩
  | oo m => simp [Vl.items] at e
  | dc _ => simp [Vl.items] at e
  | rg _ _ => simp [Vl.items] at e
theorem ok_tuple {K : PySem.W.Frag} : Op1 K (RP K) oTuple (fun x H Q => ∃ p ys, [x] = [V.ref p] ∧ ((SqL K H p ys ∧ newT H Q ys) ∨ (SqT K H p ys ∧ Q (.ref p) H))) := by
  intro S H x z fx u Q e dom sep rx h
  unfold oTuple at e
  cases q : x.items with
  | none => rw [q] at e; cases e
  | some l =>
    rw [q] at e
    cases e
    rcases rx.tupx q with ⟨a, vs, h1, h2, h3⟩ | hx
    · refine ⟨a, vs, by rw [h1], .inl ⟨h2, fun p ob hp ho => ?_⟩⟩
      obtain ⟨k, rt⟩ := fresh_tup h3 hp ho
      exact h _ [] _ k (fun _ q => absurd q (by simp)) Sep.nil ⟨rfl, rt⟩
    · have hx' := hx
      unfold rep at hx
      obtain ⟨a, vs, h1, h2, h3⟩ := hx
      exact ⟨a, vs, by rw [h1], .inr ⟨h2.sq, by rw [← h1]; exact pure_end hx' h⟩⟩
theorem ok_list {K : PySem.W.Frag} : Op1 K (RP K) oList (fun x H Q => ∃ p ys, [x] = [V.ref p] ∧ (SqL K H p ys ∨ SqT K H p ys) ∧ ∀ l, H l = none → Q (.ref l) (upd H l (.lst ys))) := by
  intro S H x z fx u Q e dom sep rx h
  unfold oList at e
  cases q : x.items with
  | none => rw [q] at e; cases e
  | some l =>
    rw [q] at e
    cases e
    obtain ⟨a, vs, h1, h2, h3⟩ := rx.items q
    refine ⟨a, vs, by rw [h1], rd_sq h2, fun p hp => ?_⟩
    obtain ⟨k, fr, sp, rt⟩ := fresh_lst h3 hp dom
    exact h _ [p] _ k fr sp rt
theorem ok_int1 {K : PySem.W.Frag} : Op1 K (RP K) oInt (fun x H Q => (∃ i, [x] = [V.int i] ∧ Q (.int i) H) ∨ ∃ k, [x] = [V.bl k] ∧ Q (.int (if k then 1 else 0)) H) := by
  intro S H x z fx u Q e dom sep rx h
  unfold oInt at e
  split at e
  · cases e
    have h1 := rx.2
    unfold rep at h1
    exact .inl ⟨_, by rw [h1], pure_end (rep_int _) h⟩
  · cases e
    have h1 := rx.2
    unfold rep at h1
    exact .inr ⟨_, by rw [h1], pure_end (rep_int _) h⟩
  · cases e
theorem ok_abs {K : PySem.W.Frag} : Op1 K (RP K) oAbs (fun x H Q => ∃ i, [x] = [V.int i] ∧ Q (.int (if i < 0 then -i else i)) H) := by
  intro S H x z fx u Q e dom sep rx h
  unfold oAbs at e
  split at e
  · cases e
    have h1 := rx.2
    unfold rep at h1
    exact ⟨_, by rw [h1], pure_end (rep_int _) h⟩
  · cases e

/-! any, all, sum, max, min -/
/-- items as they lie -/
theorem items_at {pins : List (Addr × Obj)} {σ : L2.St} {H : Hp} {s : Shared} {a : Addr} {vs : List V} {l : List D} {S : SP'} (I : Inv X pins σ H s) (h : SqL X.K H a vs ∨ SqT X.K H a vs) (r : reps X.K S H l vs) :
    ∃ its : List Value, Vals vs its ∧ (s.heap.IsList a its.toArray ∨ s.heap.IsTuple a its.toArray) ∧ ∃ as, ReadsAll s.heap its.toArray.toList (D.pys l) as := by
  rcases h with h | h
  · obtain ⟨hz, its, n, dd, sl, rv, hl, e⟩ := Inv.rdl I h
    obtain ⟨as, q⟩ := Dp.readsAll I _ vs its r.dp rv
    exact ⟨its, rv, .inl ⟨_, e, rfl, n, rfl⟩, as, q⟩
  · obtain ⟨its, rv, ⟨o, e1, e2, n, e3⟩, _⟩ := I.tuple h
    obtain ⟨as, q⟩ := Dp.readsAll I _ vs its r.dp rv
    exact ⟨its, rv, .inr ⟨o, e1, e2, n, e3⟩, as, q⟩
def rIt (K : PySem.W.Frag) (f : List D → Option D) : List V → Hp → VK → Prop := fun xs H Q => ∃ a vs l S d, xs = [V.ref a] ∧ (SqL K H a vs ∨ SqT K H a vs) ∧ reps K S H l vs ∧ f l = some d ∧ ∀ w, rep K S H d w → Q w H
theorem ok_it {K : PySem.W.Frag} {f : List D → Option D} {g : Vl → Option Vl} (hg : ∀ x, g x = (x.items.bind f).map .v) : Op1 K (RP K) g (fun x H Q => rIt K f [x] H Q) := by
  intro S H x z fx u Q e dom sep rx h
  rw [hg] at e
  cases q : x.items with
  | none => rw [q] at e; cases e
  | some l =>
    rw [q] at e
    cases q2 : f l with
    | none => rw [Option.bind_some, q2] at e; cases e
    | some d =>
      rw [Option.bind_some, q2] at e
      cases e
      obtain ⟨a, vs, h1, h2, h3⟩ := rx.items q
      exact ⟨a, vs, l, S, d, by rw [h1], h2, h3, q2, fun w r => pure_end r h⟩
theorem bools_py : ∀ {l : List D} {bs : List Bool}, D.bools l = some bs → D.pys l = bs.map PyData.bool
  | [], _, h => by cases h; rfl
  | .bl b :: l, _, h => by
    simp only [D.bools] at h
    cases q : D.bools l with
    | none => rw [q] at h; cases h
    | some bs => rw [q] at h; cases h; simp only [D.pys, D.py, List.map_cons, bools_py q]
  | .non :: _, _, h => by cases h
  | .int _ :: _, _, h => by cases h
  | .str _ :: _, _, h => by cases h
  | .tup _ :: _, _, h => by cases h
  | .lst _ :: _, _, h => by cases h
theorem ints_py : ∀ {l : List D} {bs : List Int}, D.ints l = some bs → D.pys l = bs.map PyData.int
  | [], _, h => by cases h; rfl
  | .int b :: l, _, h => by
    simp only [D.ints] at h
    cases q : D.ints l with
    | none => rw [q] at h; cases h
    | some bs => rw [q] at h; cases h; simp only [D.pys, D.py, List.map_cons, ints_py q]
  | .non :: _, _, h => by cases h
  | .bl _ :: _, _, h => by cases h
  | .str _ :: _, _, h => by cases h
  | .tup _ :: _, _, h => by cases h
  | .lst _ :: _, _, h => by cases h
theorem any_truthy (bs : List Bool) : (bs.map PyData.bool).any PyData.truthy = bs.any id := by rw [List.any_map]; rfl
theorem all_truthy (bs : List Bool) : (bs.map PyData.bool).all PyData.truthy = bs.all id := by rw [List.all_map]; rfl
theorem bool_fits (bs : List Bool) : ∀ x ∈ bs.map PyData.bool, x.fits63 := fun x h => by
  obtain ⟨b, _, rfl⟩ := List.mem_map.mp h
  exact trivial
theorem bool_plain : ∀ bs : List Bool, PyData.plainAll (bs.map PyData.bool) = true
  | [] => rfl
  | b :: bs => by simp only [List.map_cons, PyData.plainAll, PyData.plain, bool_plain bs, Bool.and_self]
theorem call_any' (hc : X.calm = true) : CallR X (.builtin "any") (rIt X.K fun l => (D.bools l).map fun bs => .bl (bs.any id)) := by
  intro pins s σ H xs us Q I r h
  obtain ⟨a, vs, l, S, d, rfl, ha, rl, hf, q⟩ := h
  obtain ⟨u, rfl, rx⟩ := vals1 r
  cases rx
  dsimp only at hf
  cases hb : D.bools l with
  | none => rw [hb] at hf; cases hf
  | some bs =>
    rw [hb] at hf
    cases hf
    obtain ⟨its, rv, hl, as, hr⟩ := items_at I ha rl
    rw [bools_py hb] at hr
    have fin : ∀ h' tk, (∀ b o, s.heap.get? b = some o → h'.get? b = some o) → EP X pins σ Q (.bool ((bs.map PyData.bool).any PyData.truthy)) { s with heap := h', toks := tk } := fun h' tk k =>
      ⟨.bl _, H, I.kept k, rfl, by rw [any_truthy]; exact q _ (rep_bl _)⟩
    rcases hl with hl | hl
    · exact PySem.W.any_list_data (I.ok.hd hc) hl hr (bool_plain bs) (bool_fits bs) fin
    · exact PySem.W.any_tuple_data (I.ok.hd hc) hl hr (bool_plain bs) (bool_fits bs) fin
theorem call_all' (hc : X.calm = true) : CallR X (.builtin "all") (rIt X.K fun l => (D.bools l).map fun bs => .bl (bs.all id)) := by
  intro pins s σ H xs us Q I r h
  obtain ⟨a, vs, l, S, d, rfl, ha, rl, hf, q⟩ := h
  obtain ⟨u, rfl, rx⟩ := vals1 r
  cases rx
  dsimp only at hf
  cases hb : D.bools l with
  | none => rw [hb] at hf; cases hf
  | some bs =>
    rw [hb] at hf
    cases hf
    obtain ⟨its, rv, hl, as, hr⟩ := items_at I ha rl
    rw [bools_py hb] at hr
    have fin : ∀ h' tk, (∀ b o, s.heap.get? b = some o → h'.get? b = some o) → EP X pins σ Q (.bool ((bs.map PyData.bool).all PyData.truthy)) { s with heap := h', toks := tk } := fun h' tk k =>
      ⟨.bl _, H, I.kept k, rfl, by rw [all_truthy]; exact q _ (rep_bl _)⟩
    rcases hl with hl | hl
    · exact PySem.W.all_list_data (I.ok.hd hc) hl hr (bool_plain bs) (bool_fits bs) fin
    · exact PySem.W.all_tuple_data (I.ok.hd hc) hl hr (bool_plain bs) (bool_fits bs) fin
theorem ints_alike (bs : List Int) : ∀ x ∈ bs.map PyData.int, ∀ y ∈ bs.map PyData.int, PySem.W.alike x y = true := fun x hx y hy => by
  obtain ⟨i, _, rfl⟩ := List.mem_map.mp hx
  obtain ⟨j, _, rfl⟩ := List.mem_map.mp hy
  simp [PySem.W.alike]
end
end Fx
end

section
set_option Elab.async false
set_option linter.all false
set_option maxRecDepth 100000
set_option maxHeartbeats 4000000
/-! Wg: more built-ins; what is walked. -/
namespace Fx
open PySem PySem.Spec PyProof.Rows L2
section
variable {X : Cx} {W : WX} {a b c : Expr} {pos : Pos} {m n : M Vl}
theorem pys_depth_ints : ∀ bs : List Int, PyData.depthAll (bs.map PyData.int) = 0
  | [] => rfl
  | b :: bs => by simp only [List.map_cons, PyData.depthAll, PyData.depth, pys_depth_ints bs]; rfl
theorem alike_ints' (bs : List Int) : PySem.W.AlikeAll (bs.map PyData.int) := ⟨ints_alike bs, fun x hx => by
  obtain ⟨i, _, rfl⟩ := List.mem_map.mp hx
  exact fun z => nomatch z⟩
theorem call_maxL (hc : X.calm = true) (hu : X.A.units + 66 < cLine) : CallR X (.builtin "max") (rIt X.K fun l => ((D.ints l).bind maxL).map .int) := by
  intro pins s σ H xs us Q I r h
  obtain ⟨a, vs, l, S, d, rfl, ha, rl, hf, q⟩ := h
  obtain ⟨u, rfl, rx⟩ := vals1 r
  cases rx
  dsimp only at hf
  cases hb : D.ints l with
  | none => rw [hb] at hf; cases hf
  | some bs =>
    rw [hb, Option.bind_some] at hf
    obtain ⟨its, rv, hl, as, hr⟩ := items_at I ha rl
    rw [ints_py hb] at hr
    cases bs with
    | nil => cases hf
    | cons x bs =>
      cases hf
      have fin : ∀ (i : Nat) (v : Value) (h' : Heap) tk bs', its.toArray[i]? = some v → Reads h' v (PySem.W.maxD (.int x) (bs.map PyData.int)) bs' → (∀ b o, s.heap.get? b = some o → h'.get? b = some o) → EP X pins σ Q v { s with heap := h', toks := tk } := fun i v h' tk bs' _ rd k => by
        rw [PySem.W.maxD_ints] at rd
        cases rd
        exact ⟨.int _, H, I.kept k, ⟨_, rfl⟩, q _ (rep_int _)⟩
      have hd : X.A.units + 1 + PyData.depthAll (PyData.int x :: bs.map PyData.int) < cLine := by
        have := pys_depth_ints (x :: bs)
        rw [List.map_cons] at this
        rw [this]; omega
      rcases hl with hl | hl
      · exact PySem.W.max_list_data (I.ok.hd hc) hl hr (alike_ints' (x :: bs)) hd fin
      · exact PySem.W.max_tuple_data (I.ok.hd hc) hl hr (alike_ints' (x :: bs)) hd fin
theorem call_minL (hc : X.calm = true) (hu : X.A.units + 66 < cLine) : CallR X (.builtin "min") (rIt X.K fun l => ((D.ints l).bind minL).map .int) := by
  intro pins s σ H xs us Q I r h
  obtain ⟨a, vs, l, S, d, rfl, ha, rl, hf, q⟩ := h
  obtain ⟨u, rfl, rx⟩ := vals1 r
  cases rx
  dsimp only at hf
  cases hb : D.ints l with
  | none => rw [hb] at hf; cases hf
  | some bs =>
    rw [hb, Option.bind_some] at hf
    obtain ⟨its, rv, hl, as, hr⟩ := items_at I ha rl
    rw [ints_py hb] at hr
    cases bs with
    | nil => cases hf
    | cons x bs =>
      cases hf
      have fin : ∀ (i : Nat) (v : Value) (h' : Heap) tk bs', its.toArray[i]? = some v → Reads h' v (PySem.W.minD (.int x) (bs.map PyData.int)) bs' → (∀ b o, s.heap.get? b = some o → h'.get? b = some o) → EP X pins σ Q v { s with heap := h', toks := tk } := fun i v h' tk bs' _ rd k => by
        rw [PySem.W.minD_ints] at rd
        cases rd
        exact ⟨.int _, H, I.kept k, ⟨_, rfl⟩, q _ (rep_int _)⟩
      have hd : X.A.units + 1 + PyData.depthAll (PyData.int x :: bs.map PyData.int) < cLine := by
        have := pys_depth_ints (x :: bs)
        rw [List.map_cons] at this
        rw [this]; omega
      rcases hl with hl | hl
      · exact PySem.W.min_list_data (I.ok.hd hc) hl hr (alike_ints' (x :: bs)) hd fin
      · exact PySem.W.min_tuple_data (I.ok.hd hc) hl hr (alike_ints' (x :: bs)) hd fin
theorem ints_val {h : Heap} : ∀ {vs : List Value} {ns : List Int} {as : List Addr}, ReadsAll h vs (ns.map PyData.int) as → IntsAre vs ns
  | _, [], _, r => by cases r; exact .nil
  | _, n :: ns, _, r => by
    cases r with
    | cons h1 h2 => cases h1; exact .cons _ _ (ints_val h2)
theorem sum_pre (f : Nat → Int) : ∀ n, preSum f n = ((List.range n).map f).sum
  | 0 => rfl
  | n + 1 => by
    rw [List.range_succ, List.map_append, List.sum_append, ← sum_pre f n]
    show preSum f n + f n = _
    simp
theorem map_getD : ∀ ns : List Int, (List.range ns.length).map (fun i => ns.getD i 0) = ns := fun ns => by
  apply List.ext_getElem
  · simp
  · intro i h1 h2
    simp only [List.getElem_map, List.getElem_range]
    simp only [List.length_map, List.length_range] at h1
    simp [List.getD, h1]
theorem ints_get {vs : List Value} {ns : List Int} (h : IntsAre vs ns) : ∀ (i : Nat) (v : Value), vs[i]? = some v → ∃ t, v = .int (ns.getD i 0) t := by
  induction h with
  | nil => intro i v e; simp at e
  | cons n t hr ih =>
    intro i v e
    cases i with
    | zero => simp at e; subst e; exact ⟨_, rfl⟩
    | succ i => simpa using ih i v (by simpa using e)
theorem call_sum' (hc : X.calm = true) : CallR X (.builtin "sum") (rIt X.K fun l => (D.ints l).map fun ns => .int ns.sum) := by
  intro pins s σ H xs us Q I r h
  obtain ⟨a, vs, l, S, d, rfl, ha, rl, hf, q⟩ := h
  obtain ⟨u, rfl, rx⟩ := vals1 r
  cases rx
  dsimp only at hf
  cases hb : D.ints l with
  | none => rw [hb] at hf; cases hf
  | some ns =>
    rw [hb] at hf
    cases hf
    obtain ⟨its, rv, hl, as, hr⟩ := items_at I ha rl
    rw [ints_py hb] at hr
    have hi : IntsAre its ns := ints_val (by simpa using hr)
    have hlen : its.toArray.size = ns.length := by
      have : ∀ {vs : List Value} {ns : List Int}, IntsAre vs ns → vs.length = ns.length := by
        intro vs ns h
        induction h with
        | nil => rfl
        | cons _ _ _ ih => simp [ih]
      simpa using this hi
    have eqs : preSum (fun i => ns.getD i 0) its.toArray.size = ns.sum := by rw [sum_pre, hlen, map_getD]
    have fin : ∀ (s2 s' : Shared) (t' : Tok), s2.heap.objs.size = s2.heap.objs.size → (∀ b o, s.heap.get? b = some o → s'.heap.get? b = some o) → s'.gens = s.gens → s'.drawn = s.drawn → s'.os = s.os → EP X pins σ Q (.int (preSum (fun i => ns.getD i 0) its.toArray.size) t') s' := fun s2 s' t' _ k e1 e2 e3 => by
      obtain ⟨h', g', d', tk', o'⟩ := s'
      simp only at e1 e2 e3 k
      subst e1 e2 e3
      exact ⟨.int ns.sum, H, I.kept k, ⟨t', by rw [eqs]⟩, q _ (rep_int _)⟩
    rcases hl with hl | hl
    · refine call_sum_walkAnyS (PySem.W.iter_listW (A := X.A.in1) (I.ok.hd hc) hl fun s₂ e WW st hfp hw hk => ?_)
      refine ⟨_, _, _, _, _, _, _, fun i => ns.getD i 0, rfl, WW, st, hfp, fun i v hv => ints_get hi i v (by simpa using hv), fun s' t' mv => ?_⟩
      obtain ⟨h', tk, rfl, hk'⟩ := PySem.W.moved_old e rfl mv
      exact fin s _ t' rfl hk' rfl rfl rfl
    · refine call_sum_walkAnyS (PySem.W.iter_tupleW (A := X.A.in1) (I.ok.hd hc) hl fun s₂ e WW st hfp hw hk => ?_)
      refine ⟨_, _, _, _, _, _, _, fun i => ns.getD i 0, rfl, WW, st, hfp, fun i v hv => ints_get hi i v (by simpa using hv), fun s' t' mv => ?_⟩
      obtain ⟨h', tk, rfl, hk'⟩ := PySem.W.moved_old e rfl mv
      exact fin s _ t' rfl hk' rfl rfl rfl
theorem ok_anyA {K : PySem.W.Frag} : Op1 K (RP K) oAny (fun x H Q => rIt K (fun l => (D.bools l).map fun bs => .bl (bs.any id)) [x] H Q) := ok_it fun x => by
  unfold oAny
  cases x.items with
  | none => rfl
  | some l => simp only [Option.bind_some]; cases D.bools l <;> rfl
theorem ok_allA {K : PySem.W.Frag} : Op1 K (RP K) oAll (fun x H Q => rIt K (fun l => (D.bools l).map fun bs => .bl (bs.all id)) [x] H Q) := ok_it fun x => by
  unfold oAll
  cases x.items with
  | none => rfl
  | some l => simp only [Option.bind_some]; cases D.bools l <;> rfl
theorem ok_sumA {K : PySem.W.Frag} : Op1 K (RP K) oSum (fun x H Q => rIt K (fun l => (D.ints l).map fun ns => .int ns.sum) [x] H Q) := ok_it fun x => by
  unfold oSum
  cases x.items with
  | none => rfl
  | some l => simp only [Option.bind_some]; cases D.ints l <;> rfl
theorem ok_maxA {K : PySem.W.Frag} : Op1 K (RP K) oMaxL (fun x H Q => rIt K (fun l => ((D.ints l).bind maxL).map .int) [x] H Q) := ok_it fun x => by
  unfold oMaxL
  cases x.items with
  | none => rfl
  | some l =>
    simp only [Option.bind_some]
    cases h : D.ints l with
    | none => rfl
    | some ns => simp only [Option.bind_some]; cases maxL ns <;> rfl
theorem ok_minA {K : PySem.W.Frag} : Op1 K (RP K) oMinL (fun x H Q => rIt K (fun l => ((D.ints l).bind minL).map .int) [x] H Q) := ok_it fun x => by
  unfold oMinL
  cases x.items with
  | none => rfl
  | some l =>
    simp only [Option.bind_some]
    cases h : D.ints l with
    | none => rfl
    | some ns => simp only [Option.bind_some]; cases minL ns <;> rfl
/-! two ints -/
theorem de_b2 {id : String} {r : List V → Hp → VK → Prop} {f : Vl → Vl → Option Vl} {x : Str} {p : Pos} (hc : CallR X (.builtin id) r) (ok : Op2 X.K (repV X.K) (repV X.K) f (fun x y H Q => r [x, y] H Q)) (ha : DE X W a m) (hb : DE X W b n) (hm : X.mg x = none) (hv : bootBuiltins x = some (.builtin id)) (hg : Gl X x := by rfl) (hn : x ≠ "__name__" := by decide) (hdb : (x == ("__debug__" : Str)) = false := by decide)
    (he : starEach (a :: [b]) X.env = (false, eval a X.env) :: starEach [b] X.env := by rfl) (he2 : starEach (b :: []) X.env = (false, eval b X.env) :: starEach [] X.env := by rfl) (hpl : (backTo pos (starEach [b] X.env)).any (·.1) = false := by rfl) : DE X W (.Call (.Name x p) [a, b] [] pos) (e2 f m n) :=
  ⟨PEm (pe_callB hc hg hm hv (pa_cons ha.p (pa_cons hb.p pa_nil he2) he) hn hdb he hpl) fun σ H Q h => op2_tr (X := X) (W := W) (RX := repV X.K) (RY := repV X.K) ok (wt_rep _) h⟩
theorem ok_max2 {K : PySem.W.Frag} : Op2 K (repV K) (repV K) oMax2 (fun x y H Q => ∃ i j, [x, y] = [V.int i, V.int j] ∧ Q (.int (if j > i then j else i)) H) :=
  ok_int2 (fun i j => some (.int (if i < j then j else i))) (fun i j d e K S H => by cases e; exact ⟨_, rep_int _, fun H Q q => ⟨i, j, rfl, q⟩⟩) fun x y z e => by
    unfold oMax2 at e
    split at e
    · cases e; exact ⟨_, _, _, rfl, rfl, rfl, rfl⟩
    · cases e
theorem ok_min2 {K : PySem.W.Frag} : Op2 K (repV K) (repV K) oMin2 (fun x y H Q => ∃ i j, [x, y] = [V.int i, V.int j] ∧ Q (.int (if j < i then j else i)) H) :=
  ok_int2 (fun i j => some (.int (if j < i then j else i))) (fun i j d e K S H => by cases e; exact ⟨_, rep_int _, fun H Q q => ⟨i, j, rfl, q⟩⟩) fun x y z e => by
    unfold oMin2 at e
    split at e
    · cases e; exact ⟨_, _, _, rfl, rfl, rfl, rfl⟩
    · cases e
/-! isinstance -/
def Ty.name : Ty → String
  | .tInt => "int"
  | .tBool => "bool"
  | .tStr => "str"
  | .tTuple => "tuple"
  | .tList => "list"
theorem call_isD (t : Ty) : CallR X (.builtin "isinstance") (fun xs H Q => ∃ x d, xs = [x, .ty t.name] ∧ Dp X.K H x (D.py d) ∧ Q (.bl (d.isA t)) H) := by
  intro pins s σ H xs us Q I r h
  obtain ⟨x, d, rfl, hd, q⟩ := h
  obtain ⟨u1, u2, rfl, r1, r2⟩ := vals2 r
  obtain ⟨as, rd⟩ := Dp.reads I _ x u1 hd r1
  cases r2
  cases t
  · refine PySem.W.isinstance_int_data rd fun tk _ => ⟨.bl _, H, I.tok tk, rfl, ?_⟩
    cases d <;> exact q
  · refine PySem.W.isinstance_bool_data rd fun tk _ => ⟨.bl _, H, I.tok tk, rfl, ?_⟩
    cases d <;> exact q
  · refine PySem.W.isinstance_str_data rd fun tk _ => ⟨.bl _, H, I.tok tk, rfl, ?_⟩
    cases d <;> exact q
  · refine PySem.W.isinstance_tuple_data rd fun tk _ => ⟨.bl _, H, I.tok tk, rfl, ?_⟩
    cases d <;> exact q
  · refine PySem.W.isinstance_list_data rd fun tk _ => ⟨.bl _, H, I.tok tk, rfl, ?_⟩
    cases d <;> exact q
theorem de_isA (t : Ty) {x y : Str} {p p2 : Pos} (ha : DP X W a m) (hm : X.mg x = none) (hmy : X.mg y = none) (hv : bootBuiltins x = some (.builtin "isinstance")) (hvy : bootBuiltins y = some (.type t.name)) (hg : Gl X x := by rfl) (hgy : Gl X y := by rfl) (hn : x ≠ "__name__" := by decide) (hny : y ≠ "__name__" := by decide) (hdb : (x == ("__debug__" : Str)) = false := by decide) (hdy : (y == ("__debug__" : Str)) = false := by decide)
    (he : starEach (a :: [.Name y p2]) X.env = (false, eval a X.env) :: starEach [.Name y p2] X.env := by rfl) (he2 : starEach (.Name y p2 :: []) X.env = (false, eval (.Name y p2) X.env) :: starEach [] X.env := by rfl) (hpl : (backTo pos (starEach [.Name y p2] X.env)).any (·.1) = false := by rfl) :
    DE X W (.Call (.Name x p) [a, .Name y p2] [] pos) (e1 (oIsA t) m) := by
  refine ⟨PEm (pe_callB (call_isD t) hg hm hv (pa_cons ha.p (pa_cons (pe_bltn (v := .ty t.name) hgy hmy hvy rfl hny hdy) pa_nil he2) he) hn hdb he hpl) fun σ H Q h => ?_⟩
  refine TR.bind (R' := repV X.K) (k := fun x e => lift (oIsA t x) e) (Q := Q) h fun S e fp S1 H1 e1 fp1 fx x v wd ext wd1 sep1 rx p => ?_
  unfold oIsA at p
  cases q : x.d with
  | none => rw [q] at p; exact p.elim
  | some d =>
    rw [q] at p
    exact ⟨v, d, rfl, rx.dp q, p S1 H1 fp1 [] _ ext.drop wd1 wd1.sep ⟨rfl, rep_bl _⟩⟩

/-! ### what is walked -/
/-- how an item lies: as data, or (of enumerate, zip) as a pair that is unpacked at once -/
def RY (K : PySem.W.Frag) (Y : Bool) (S : SP') (H : Hp) (d : D) (v : V) : Prop := match Y with
  | false => rep K S H d v
  | true => ∃ ds a vs, d = .tup ds ∧ v = .ref a ∧ SqT K H a vs ∧ reps K S H ds vs
/-- J walks these data, as long as what is read for good stands -/
def Wk (K : PySem.W.Frag) (S : SP') (H : Hp) (J : It) (ds : List D) (Y : Bool := false) : Prop := ∀ S' H', Stb S H S' H' →
  (∀ (i : Nat) (d : D), ds[i]? = some d → J.go i H' ∧ ∀ x H3, J.yld i H' x H3 → (∀ a o, H' a = some o → H3 a = some o) ∧ RY K Y S' H3 d x) ∧ J.stop ds.length H'
structure DI (X : Cx) (W : WX) (tg iter : Expr) (m : M (List D)) (Y : Bool := false) : Prop where
  p : PI X tg iter (fun σ H R => TR X.K X.mg W (fun S H ds fx (J : It) => fx = [] ∧ Wk X.K S H J ds Y) m σ H R)
theorem PIm {X : Cx} {tg e : Expr} {t t' : TI} (h : PI X tg e t) (k : ∀ σ H Q, t' σ H Q → t σ H Q) : PI X tg e t' := ⟨fun pins s σ H R I q => h.run pins s σ H R I (k σ H R q)⟩
theorem wk_list {K : PySem.W.Frag} {S : SP'} {H : Hp} {a : Addr} {vs : List V} {l : List D} (h : Ls K S H a vs) (r : reps K S H l vs) : Wk K S H (Itl K a) l := fun S' H' st => by
  have h' : SqL K H' a vs := (h.stb st).sq
  refine ⟨fun i d e => ?_, ⟨vs, h', by rw [r.length]; exact Nat.le_refl _⟩⟩
  obtain ⟨v, hv, rv⟩ := r.get e
  refine ⟨⟨vs, v, h', hv⟩, fun x H3 y => ?_⟩
  obtain ⟨y1, y2⟩ := y
  subst y1
  have := y2 vs h'
  rw [hv] at this
  cases this
  exact ⟨fun _ _ h => h, rep.stb st d _ rv⟩
theorem wk_tup {K : PySem.W.Frag} {S : SP'} {H : Hp} {a : Addr} {vs : List V} {l : List D} (h : SqT K H a vs) (r : reps K S H l vs) : Wk K S H (Itt K a) l := fun S' H' st => by
  have h' : SqT K H' a vs := SqT.stb st h
  refine ⟨fun i d e => ?_, ⟨vs, h', by rw [r.length]; exact Nat.le_refl _⟩⟩
  obtain ⟨v, hv, rv⟩ := r.get e
  refine ⟨⟨vs, v, h', hv⟩, fun x H3 y => ?_⟩
  obtain ⟨y1, y2⟩ := y
  subst y1
  have := y2 vs h'
  rw [hv] at this
  cases this
  exact ⟨fun _ _ h => h, rep.stb st d _ rv⟩
/-- a list or a tuple: either rule of the layer joined -/
theorem pi_any {tg : Expr} {t : TE} (h : PE X a t) : PI X tg a (fun σ H R => t σ H fun x H1 => ∃ l, x = .ref l ∧ ((∃ xs, SqL X.K H1 l xs) ∧ R (Itl X.K l) H1 ∨ (∃ xs, SqT X.K H1 l xs) ∧ R (Itt X.K l) H1)) := by
  refine ⟨fun pins s σ H R I hw => ?_⟩
  refine thn (h.run pins s σ H _ I hw) fun v s1 ⟨x, H1, I1, r1, l, e1, q1⟩ => ?_
  subst e1
  cases r1
  rcases q1 with ⟨⟨xs, hx⟩, q⟩ | ⟨⟨xs, hx⟩, q⟩
  · obtain ⟨its, rv, pl, hz⟩ := I1.list hx
    have hl := rv.length
    refine wpAny_pyIter_list pl.isList ?_
    have I2 : Inv X pins σ H1 { s1 with heap := s1.heap.push { cls := .type "list_iterator", data := .fields #[.ref l, .int 0 0] } } := I1.kept (t' := s1.toks) fun b o e => Heap.get?_push_of_some _ e
    refine ⟨s1.heap.objs.size, [s1.heap.objs.size], _, _, H1, rfl, I2, turn_list l _, ⟨_, Heap.get?_push_size _ rfl, rfl, rfl⟩, fun b hb => ?_, q⟩
    have e : b = s1.heap.objs.size := by simpa using hb
    subst e
    exact I1.fpOk (Nat.le_refl _) (I1.hok.fresh (Nat.le_refl _))
  · obtain ⟨its, rv, pl, hz⟩ := I1.tuple hx
    have hl := rv.length
    refine wpAny_pyIter_tuple (show s1.heap.IsTuple l its.toArray from pl) ?_
    have I2 : Inv X pins σ H1 { s1 with heap := s1.heap.push { cls := .type "tuple_iterator", data := .fields #[.ref l, .int 0 0] } } := I1.kept (t' := s1.toks) fun b o e => Heap.get?_push_of_some _ e
    refine ⟨s1.heap.objs.size, [s1.heap.objs.size], _, _, H1, rfl, I2, turn_tuple l _, ⟨_, Heap.get?_push_size _ rfl, rfl, rfl⟩, fun b hb => ?_, q⟩
    have e : b = s1.heap.objs.size := by simpa using hb
    subst e
    exact I1.fpOk (Nat.le_refl _) (I1.hok.fresh (Nat.le_refl _))
end
end Fx
end

section
set_option Elab.async false
set_option linter.all false
set_option maxRecDepth 100000
set_option maxHeartbeats 4000000
/-! Wh: enumerate of a tuple; what is walked; targets. -/
namespace Fx
open PySem PySem.Spec PyProof.Rows L2

theorem enum_newT (l : Addr) (items : Array Value) :
    Meets (Builtin.«enumerate.__new__» ⟨[.type "enumerate", .ref l], []⟩) (fun _ R s => s.heap.IsTuple l items ∧
      R (.ok (.ret (.ref (s.heap.push { cls := .type "tuple_iterator", data := .fields #[.ref l, .int 0 0] }).objs.size)))
        { s with heap := (s.heap.push { cls := .type "tuple_iterator", data := .fields #[.ref l, .int 0 0] }).push { cls := .type "enumerate", data := .fields #[.none, .bool false, .ref s.heap.objs.size, rawInt 0, .none, .none] } }) :=
  .of_wp fun prog w A R s h => by
    obtain ⟨hp, g, d, tk, os⟩ := s
    obtain ⟨hL, h⟩ := h
    have hsub := sub_enumerate
    have q1 : ∀ {A' : Around} {E : Value → Shared → Prop} {Q : Value → Shared → Prop}, Q (.ref hp.objs.size) ⟨hp.push { cls := .type "tuple_iterator", data := .fields #[.ref l, .int 0 0] }, g, d, tk, os⟩ → wpAny (model prog w) A' (pyIter (.ref l)) Q E ⟨hp, g, d, tk, os⟩ :=
      fun q => wpAny_pyIter_tuple hL q
    wp_walk using q1
    refine wpAny_stack_any fun st => wpAny_pure ?_
    split
    · rename_i c _ _ _ _ _
      cases (c == Value.type "enumerate")
      · wp_walk using q1
        exact ⟨_, rfl, h⟩
      · wp_walk using q1
        exact ⟨_, rfl, h⟩
    · wp_walk using q1
      exact ⟨_, rfl, h⟩
section
variable {prog : Program} {w : World} {A : Around} {E : Value → Shared → Prop} {s : Shared}
theorem call_enumT {l : Addr} {items : Array Value} {Q : Value → Shared → Prop} (hL : s.heap.IsTuple l items)
    (h : ∀ h', IsEnum h' (s.heap.objs.size + 1) s.heap.objs.size 0 .none → h'.IsTupleIter s.heap.objs.size l 0 →
      (∀ b o, s.heap.get? b = some o → h'.get? b = some o) → Q (.ref (s.heap.objs.size + 1)) { s with heap := h' }) :
    wpAny (model prog w) A (call (.type "enumerate") [.ref l]) Q E s := by
  refine callType_new F.called_enumerate (by decide) (F.typeCall_enumerate_1 _) (F.newCall_enumerate_1 _) (fun obj => F.args_object_init_2 obj _) F.entry_enumerate_new
    (enum_newT l items) ⟨hL, ?_⟩
  have hz : (s.heap.push { cls := .type "tuple_iterator", data := .fields #[.ref l, .int 0 0] }).objs.size = s.heap.objs.size + 1 := Heap.size_push ..
  show _ ∧ _
  rw [hz]
  have he : IsEnum ((s.heap.push { cls := .type "tuple_iterator", data := .fields #[.ref l, .int 0 0] }).push
      { cls := .type "enumerate", data := .fields #[.none, .bool false, .ref s.heap.objs.size, rawInt 0, .none, .none] }) (s.heap.objs.size + 1) s.heap.objs.size 0 .none := by
    have := Heap.get?_push_size (s.heap.push { cls := .type "tuple_iterator", data := .fields #[.ref l, .int 0 0] })
      (o := { cls := .type "enumerate", data := .fields #[.none, .bool false, .ref s.heap.objs.size, rawInt 0, .none, .none] }) rfl
    rw [hz] at this; exact this
  exact ⟨⟨_, he, rfl⟩, h _ he ⟨_, Heap.get?_push_of_some _ (Heap.get?_push_size _ rfl), rfl, rfl⟩ fun b o x => Heap.get?_push_of_some _ (Heap.get?_push_of_some _ x)⟩
end
/-- the tuple at a, each item in a new pair -/
def IteT (K : PySem.W.Frag) (a : Addr) : It :=
  ⟨fun i H => ∃ (xs : List V) (x : V), SqT K H a xs ∧ xs[i]? = some x, fun i H v H' => ∃ T x, v = .ref T ∧ H T = none ∧ H' = upd H T (.tup [.int (i : Nat), x]) ∧ ∀ xs, SqT K H a xs → xs[i]? = some x, fun i H => ∃ xs : List V, SqT K H a xs ∧ xs.length = i⟩
theorem turn_enumT {P : Program} {w : World} {K : PySem.W.Frag} {elts : List Expr} {kk : Nat} {tpos : Pos} (a e it : Addr) :
    Turn P w K (.Tuple elts kk tpos) (IteT K a) [e, it] e (fun i h => (∃ old, IsEnum h e it ((i : Nat) : Int) old) ∧ h.IsTupleIter it a i ∧ e ≠ it ∧ a ≠ it ∧ a ≠ e) where
  mem := by simp
  obj := fun i h st b hb => by
    obtain ⟨⟨old, he⟩, ⟨o, ho, hc, hd⟩, _⟩ := st
    have e' : b = e ∨ b = it := by simpa using hb
    rcases e' with z | z
    · rw [z]; exact ⟨_, he, fun v q => nomatch q⟩
    · rw [z]; exact ⟨o, ho, fun v q => by rw [hd] at q; cases q⟩
  keep := fun i h h' st k => let ⟨⟨old, he⟩, hi, hne⟩ := st; ⟨⟨old, k e (by simp) _ he⟩, hi.at fun o q => k it (by simp) o q, hne⟩
  item := by
    intro X hP hw hK hc i pins s σ H E I hf st hg
    subst hP hw hK
    obtain ⟨⟨old, he⟩, hit, hne, ha1, ha2⟩ := st
    obtain ⟨xs, x, hq, hx⟩ := hg
    obtain ⟨its, rv, p, hz⟩ := I.tuple hq
    obtain ⟨u, hu, ru⟩ := rv.get hx
    have hel : e < s.heap.objs.size := Heap.lt_size he
    have hil : it < s.heap.objs.size := by obtain ⟨_, q, _⟩ := hit; exact Heap.lt_size q
    have hlt : i < its.toArray.size := by
      have := (List.getElem?_eq_some_iff.mp hu).1
      simpa using this
    have tup : s.heap.IsTuple a its.toArray := p
    refine wpAny_pyNext_enum_itemD (Draws.tuple (A := X.A.in1) (I.ok.hd hc) it a ha1 its.toArray) he ⟨hit, tup⟩ hlt hne (by simp [hne, Ne.symm ha2]) fun u' h' tk hu' ho st' hT hsz hk => ?_
    obtain ⟨hit', _⟩ := st'
    have eu : u' = u := by
      have h1 : its[i]? = some u' := by simpa using hu'
      rw [hu] at h1
      exact (Option.some.inj h1).symm
    subst eu
    refine ⟨_, rfl, wpAny_letOwnedTupleGo_enum (s := { s with heap := h', toks := tk + 1 }) ho fun h'' he' sb => ?_⟩
    have hT2 : h''.get? s.heap.objs.size = some { cls := .type "tuple", data := .seq #[.int i tk, u'] } := (sb.2 _ (Nat.ne_of_gt hel)).trans hT
    have new : ObjOk X.prog X.w (upd H s.heap.objs.size (.tup [.int (i : Nat), x])) h'' s.heap.objs.size (.tup [.int (i : Nat), x]) :=
      ⟨by show 2 ≤ sizeLine; decide, [.int i tk, u'], .cons ⟨_, rfl⟩ (.cons ru .nil), ⟨_, hT2, rfl, _, rfl⟩⟩
    have I1 : Inv X pins σ (upd H s.heap.objs.size (.tup [.int (i : Nat), x])) { s with heap := h'', toks := tk + 1 } :=
      I.turnedNew (ch := [e, it]) (fun b ob hb q => (sb.2 b (fun z => hb (by simp [z]))).trans (hk b ob (fun z => hb (by simp [z])) (fun z => hb (by simp [z])) q)) hf (Nat.le_refl _) new
    refine ⟨.ref s.heap.objs.size, _, I1, rfl, ⟨_, x, rfl, I.hok.fresh (Nat.le_refl _), rfl, fun ys hy => by rw [I.tuple_inj hy hq]; exact hx⟩, ⟨⟨u', ?_⟩, hit'.at fun o q => (sb.2 it (Ne.symm hne)).trans q, hne, ha1, ha2⟩, fun b hb => ?_⟩
    · have e1 : ((i + 1 : Nat) : Int) = (i : Int) + 1 := by omega
      rw [e1]; exact he'
    · have hb' : b < s.heap.objs.size := by
        have e' : b = e ∨ b = it := by simpa using hb
        rcases e' with z | z
        · rw [z]; exact hel
        · rw [z]; exact hil
      rw [upd_ne (Nat.ne_of_lt hb')]
      exact (hf b hb).1
  done := by
    intro X hP hw hK hc i pins s σ H E I hf st hg
    subst hP hw hK
    obtain ⟨⟨old, he⟩, hit, hne, ha1, ha2⟩ := st
    obtain ⟨xs, hq, hx⟩ := hg
    obtain ⟨its, rv, p, hz⟩ := I.tuple hq
    obtain ⟨f0, f1, f2, f3, f4, f5⟩ := hf it (by simp)
    have hl := rv.length
    have tup : s.heap.IsTuple a its.toArray := p
    have en : i = its.toArray.size := by simp; omega
    subst en
    exact wpAny_pyNext_enum_endD (Draws.tuple (A := X.A.in1) (I.ok.hd hc) it a ha1 its.toArray) he ⟨hit, tup⟩ fun h' eb => ⟨rfl, I.turned (t' := s.toks) (fun b o hb q => eb b o hb q) f0 f1 f3 f4 f5⟩
  self := fun A i s Q E st h => let ⟨⟨_, he⟩, _⟩ := st; wpAny_pyIter_enum he h
section
variable {X : Cx} {W : WX} {a b c : Expr} {pos : Pos} {m n : M Vl}
theorem pi_enumA {e : Expr} {ta : TA} {p pos tpos : Pos} {elts : List Expr} {kk : Nat} (hg : Gl X "enumerate") (hm : X.mg "enumerate" = none) (ha : PA X [e] ta) (hs : starEach [e] X.env = [(false, eval e X.env)]) :
    PI X (.Tuple elts kk tpos) (.Call (.Name "enumerate" p) [e] [] pos) (fun σ H R => ta σ H fun vs H1 => ∃ a xs, vs = [.ref a] ∧ ((SqL X.K H1 a xs ∧ R (Ite X.K a) H1) ∨ (SqT X.K H1 a xs ∧ R (IteT X.K a) H1))) := by
  refine ⟨fun pins s σ H R I h => ?_⟩
  refine Call_ (ld_blt I hg hm boot_enumerate (PyProof.Rows.callWith_type1 (thn (ha.run pos pins s σ H _ I h) fun us s1 ⟨vs, H1, I1, r1, q1⟩ => ?_) hs rfl))
  obtain ⟨a, xs, ex, q1⟩ := q1
  subst ex
  cases r1 with
  | cons r rr =>
    cases rr
    cases r
    have fresh2 : ∀ b ∈ [s1.heap.objs.size + 1, s1.heap.objs.size], FpOk X pins H1 b := fun b hb => by
      have e' : b = s1.heap.objs.size + 1 ∨ b = s1.heap.objs.size := by simpa using hb
      have hle : s1.heap.objs.size ≤ b := by
        rcases e' with z | z
        · rw [z]; exact Nat.le_add_right _ _
        · rw [z]; exact Nat.le_refl _
      exact I1.fpOk hle (I1.hok.fresh hle)
    rcases q1 with ⟨hq, q⟩ | ⟨hq, q⟩
    · obtain ⟨its, rv, p', hz⟩ := I1.list hq
      refine call_enumerate_list p'.isList fun h' he hit hsz hk => wpAny_pyIter_enum he ?_
      exact ⟨s1.heap.objs.size + 1, [s1.heap.objs.size + 1, s1.heap.objs.size], _, _, H1, rfl, I1.kept (t' := s1.toks) hk, turn_enum a (s1.heap.objs.size + 1) s1.heap.objs.size, ⟨⟨.none, he⟩, hit, Nat.succ_ne_self _⟩, fresh2, q⟩
    · obtain ⟨its, rv, p', hz⟩ := I1.tuple hq
      have hlt : a < s1.heap.objs.size := by obtain ⟨o, e, _⟩ := p'; exact Heap.lt_size e
      refine call_enumT (show s1.heap.IsTuple a its.toArray from p') fun h' he hit hk => wpAny_pyIter_enum he ?_
      exact ⟨s1.heap.objs.size + 1, [s1.heap.objs.size + 1, s1.heap.objs.size], _, _, H1, rfl, I1.kept (t' := s1.toks) hk, turn_enumT a (s1.heap.objs.size + 1) s1.heap.objs.size, ⟨⟨.none, he⟩, hit, Nat.succ_ne_self _, Nat.ne_of_lt hlt, Nat.ne_of_lt (Nat.lt_succ_of_lt hlt)⟩, fresh2, q⟩

/-! ### the judgements of what is walked -/
theorem items_d {x : Vl} {l : List D} (e : x.items = some l) : x.d = some (.tup l) ∨ x.d = some (.lst l) := by
  cases x with
  | v d => cases d <;> simp [Vl.items, D.items] at e <;> subst e <;> simp [Vl.d]
  | o m => simp [Vl.items] at e; subst e; exact .inr rfl
  | oo m => simp [Vl.items] at e
  | dc _ => simp [Vl.items] at e
  | rg _ _ => simp [Vl.items] at e
theorem di_l {tg : Expr} (h : DE X W a m) : DI X W tg a (iL m) := by
  refine ⟨PIm (pi_any h.p) fun σ H R q => ?_⟩
  refine TR.bind (k := fun x e => lift x.items e) q fun S e fp S1 H1 e1 fp1 fx x v wd ext wd1 sep1 rx p => ?_
  cases hx : x.items with
  | none => rw [hx] at p; exact p.elim
  | some l =>
    rw [hx] at p
    rcases items_d hx with hd | hd
    · obtain ⟨ext1, wd1', rd⟩ := froze_wait ext wd1 sep1 hd rx
      unfold rep at rd
      obtain ⟨a0, vs, e0, h1, h2⟩ := rd
      exact ⟨a0, e0, .inr ⟨⟨vs, h1.sq⟩, p _ H1 fp1 [] _ ext1 wd1' wd1'.sep ⟨rfl, wk_tup h1.sq h2⟩⟩⟩
    · obtain ⟨ext1, wd1', rd⟩ := froze_wait ext wd1 sep1 hd rx
      unfold rep at rd
      obtain ⟨a0, vs, e0, h1, h2⟩ := rd
      exact ⟨a0, e0, .inl ⟨⟨vs, h1.sq⟩, p _ H1 fp1 [] _ ext1 wd1' wd1'.sep ⟨rfl, wk_list h1 h2⟩⟩⟩
theorem wk_rng {K : PySem.W.Frag} {S : SP'} {H : Hp} {lo : Int} {n : Nat} : Wk K S H (Itr lo n) (rng lo n) := fun S' H' st => by
  refine ⟨fun i d e => ?_, ?_⟩
  · unfold rng at e
    rw [List.getElem?_map] at e
    cases q : (List.range n)[i]? with
    | none => rw [q] at e; cases e
    | some k =>
      rw [q] at e
      have hk := List.getElem?_eq_some_iff.mp q
      obtain ⟨h1, h2⟩ := hk
      simp at h1 h2
      subst h2
      cases e
      exact ⟨h1, fun x H3 y => by obtain ⟨y1, y2⟩ := y; subst y1 y2; exact ⟨fun _ _ h => h, (rep_int (K := K) (S := S') (H := H3) _)⟩⟩
  · show n ≤ (rng lo n).length
    unfold rng
    simp
theorem di_r1 {tg : Expr} {p : Pos} (ha : DE X W a m) (hm : X.mg "range" = none) (hg : Gl X "range" := by rfl) (hs : starEach [a] X.env = [(false, eval a X.env)] := by rfl) (he : starEach (a :: []) X.env = (false, eval a X.env) :: starEach [] X.env := by rfl) : DI X W tg (.Call (.Name "range" p) [a] [] pos) (iR1 m) := by
  refine ⟨PIm (pi_range1 hg hm (pa_cons ha.p pa_nil he) hs) fun σ H R q => ?_⟩
  refine TR.bind (k := fun x e => match x with | .v (.int j) => if smallI j then .ok (rng 0 j.toNat) e else .bad | _ => .bad) q fun S e fp S1 H1 e1 fp1 fx x v wd ext wd1 sep1 rx p => ?_
  split at p
  · rename_i j
    split at p
    · rename_i hj
      have hx := rx.2
      unfold rep at hx
      obtain ⟨hj1, hj2⟩ := small_of hj
      exact ⟨j, by rw [hx], by omega, by omega, p S1 H1 fp1 [] _ ext.drop wd1 wd1.sep ⟨rfl, wk_rng⟩⟩
    · exact p.elim
  · exact p.elim
theorem di_r2 {tg : Expr} {p : Pos} (ha : DE X W a m) (hb : DE X W b n) (hm : X.mg "range" = none) (hg : Gl X "range" := by rfl) (hs : starEach [a, b] X.env = [(false, eval a X.env), (false, eval b X.env)] := by rfl) (hs2 : starEach [b] X.env = [(false, eval b X.env)] := by rfl)
    (he : starEach (a :: [b]) X.env = (false, eval a X.env) :: starEach [b] X.env := by rfl) (he2 : starEach (b :: []) X.env = (false, eval b X.env) :: starEach [] X.env := by rfl) : DI X W tg (.Call (.Name "range" p) [a, b] [] pos) (iR2 m n) := by
  refine ⟨PIm (pi_range2 hg hm (pa_cons ha.p (pa_cons hb.p pa_nil he2) he) hs hs2) fun σ H R q => ?_⟩
  refine TR.bind (k := fun x e => (n e).then fun y e => match x, y with | .v (.int i), .v (.int j) => if smallI i && smallI j then .ok (rng i (j - i).toNat) e else .bad | _, _ => .bad) q fun S e fp S1 H1 e1 fp1 fx x v wd ext wd1 sep1 rx p => ?_
  refine TR.next (k := fun y e => match x, y with | .v (.int i), .v (.int j) => if smallI i && smallI j then .ok (rng i (j - i).toNat) e else .bad | _, _ => .bad) wd1 ext sep1 p fun S2 H2 e2 fp2 fy y u ext2 st keep wd2 sep2 ry p2 => ?_
  split at p2
  · rename_i i j
    split at p2
    · rename_i hj
      have hx := rx.2
      have hy := ry.2
      unfold rep at hx hy
      simp only [Bool.and_eq_true] at hj
      obtain ⟨hj1, hj2⟩ := small_of hj.1
      obtain ⟨hj3, hj4⟩ := small_of hj.2
      exact ⟨i, j, by rw [hx, hy], ⟨by omega, by omega, by omega, by omega⟩, p2 S2 H2 fp2 [] _ ext2.drop.drop wd2 wd2.sep ⟨rfl, wk_rng⟩⟩
    · exact p2.elim
  · exact p2.elim
theorem enum_get : ∀ (l : List D) (k i : Nat) (d : D), (enumD k l)[i]? = some d → ∃ x, l[i]? = some x ∧ d = .tup [.int ((k + i : Nat) : Int), x]
  | [], _, _, _, e => by simp [enumD] at e
  | x :: l, k, 0, d, e => by simp [enumD] at e; exact ⟨x, rfl, e.symm⟩
  | x :: l, k, i + 1, d, e => by
    obtain ⟨y, h1, h2⟩ := enum_get l (k + 1) i d (by simpa [enumD] using e)
    exact ⟨y, by simpa using h1, by rw [h2]; congr 3; omega⟩
theorem enum_len : ∀ (l : List D) (k : Nat), (enumD k l).length = l.length
  | [], _ => rfl
  | x :: l, k => by simp [enumD, enum_len l]
theorem pair_rep {K : PySem.W.Frag} {S : SP'} {H : Hp} {T : Addr} {d1 d2 : D} {x y : V} (h1 : rep K S H d1 x) (h2 : rep K S H d2 y) (hT : H T = none) :
    (∀ a o, H a = some o → upd H T (.tup [x, y]) a = some o) ∧ RY K true S (upd H T (.tup [x, y])) (.tup [d1, d2]) (.ref T) := by
  have k : ∀ a o, H a = some o → upd H T (.tup [x, y]) a = some o := fun a o h => by rw [upd_ne (ne_of_none h hT)]; exact h
  exact ⟨k, [d1, d2], T, [x, y], rfl, rfl, .inl (.inl upd_same), reps.stb (Stb.grow k) _ _ (reps.cons h1 (reps.cons h2 reps.nil))⟩
theorem wk_enumL {K : PySem.W.Frag} {S : SP'} {H : Hp} {a : Addr} {vs : List V} {l : List D} (h : Ls K S H a vs) (r : reps K S H l vs) : Wk K S H (Ite K a) (enumD 0 l) true := fun S' H' st => by
  have h' : SqL K H' a vs := (h.stb st).sq
  refine ⟨fun i d e => ?_, ⟨vs, h', by rw [enum_len, r.length]; exact Nat.le_refl _⟩⟩
  obtain ⟨x, hx, rfl⟩ := enum_get l 0 i d e
  obtain ⟨v, hv, rv⟩ := r.get hx
  refine ⟨⟨vs, v, h', hv⟩, fun z H3 y => ?_⟩
  obtain ⟨T, w, e1, e2, e3, e4⟩ := y
  have := e4 vs h'
  rw [hv] at this
  cases this
  subst e1 e3
  rw [Nat.zero_add]
  exact pair_rep (rep_int _) (rep.stb st _ _ rv) e2
theorem wk_enumT {K : PySem.W.Frag} {S : SP'} {H : Hp} {a : Addr} {vs : List V} {l : List D} (h : SqT K H a vs) (r : reps K S H l vs) : Wk K S H (IteT K a) (enumD 0 l) true := fun S' H' st => by
  have h' : SqT K H' a vs := SqT.stb st h
  refine ⟨fun i d e => ?_, ⟨vs, h', by rw [enum_len, r.length]⟩⟩
  obtain ⟨x, hx, rfl⟩ := enum_get l 0 i d e
  obtain ⟨v, hv, rv⟩ := r.get hx
  refine ⟨⟨vs, v, h', hv⟩, fun z H3 y => ?_⟩
  obtain ⟨T, w, e1, e2, e3, e4⟩ := y
  have := e4 vs h'
  rw [hv] at this
  cases this
  subst e1 e3
  rw [Nat.zero_add]
  exact pair_rep (rep_int _) (rep.stb st _ _ rv) e2
theorem di_enum {elts : List Expr} {kk : Nat} {tpos p : Pos} (ha : DE X W a m) (hm : X.mg "enumerate" = none) (hg : Gl X "enumerate" := by rfl) (hs : starEach [a] X.env = [(false, eval a X.env)] := by rfl) (he : starEach (a :: []) X.env = (false, eval a X.env) :: starEach [] X.env := by rfl) :
    DI X W (.Tuple elts kk tpos) (.Call (.Name "enumerate" p) [a] [] pos) (iEnum m) true := by
  refine ⟨PIm (pi_enumA hg hm (pa_cons ha.p pa_nil he) hs) fun σ H R q => ?_⟩
  refine TR.bind (k := fun x e => lift (x.items.map (enumD 0)) e) q fun S e fp S1 H1 e1 fp1 fx x v wd ext wd1 sep1 rx p => ?_
  cases hx : x.items with
  | none => rw [hx] at p; exact p.elim
  | some l =>
    rw [hx] at p
    rcases items_d hx with hd | hd
    · obtain ⟨ext1, wd1', rd⟩ := froze_wait ext wd1 sep1 hd rx
      unfold rep at rd
      obtain ⟨a0, vs, e0, h1, h2⟩ := rd
      exact ⟨a0, vs, by rw [e0], .inr ⟨h1.sq, p _ H1 fp1 [] _ ext1 wd1' wd1'.sep ⟨rfl, wk_enumT h1.sq h2⟩⟩⟩
    · obtain ⟨ext1, wd1', rd⟩ := froze_wait ext wd1 sep1 hd rx
      unfold rep at rd
      obtain ⟨a0, vs, e0, h1, h2⟩ := rd
      exact ⟨a0, vs, by rw [e0], .inl ⟨h1.sq, p _ H1 fp1 [] _ ext1 wd1' wd1'.sep ⟨rfl, wk_enumL h1 h2⟩⟩⟩
theorem zip_get : ∀ (l m : List D) (i : Nat) (d : D), (zipD l m)[i]? = some d → ∃ x y, l[i]? = some x ∧ m[i]? = some y ∧ d = .tup [x, y]
  | [], _, _, _, e => by simp [zipD] at e
  | _ :: _, [], _, _, e => by simp [zipD] at e
  | x :: l, y :: m, 0, d, e => by simp [zipD] at e; exact ⟨x, y, rfl, rfl, e.symm⟩
  | x :: l, y :: m, i + 1, d, e => by simpa using zip_get l m i d (by simpa [zipD] using e)
theorem zip_len : ∀ (l m : List D), l.length ≤ (zipD l m).length ∨ m.length ≤ (zipD l m).length
  | [], _ => .inl (Nat.zero_le _)
  | _ :: _, [] => .inr (Nat.zero_le _)
  | x :: l, y :: m => by
    simp only [zipD, List.length_cons]
    rcases zip_len l m with h | h
    · exact .inl (by omega)
    · exact .inr (by omega)
theorem wk_zipL {K : PySem.W.Frag} {S : SP'} {H : Hp} {a b : Addr} {vs ws : List V} {l m : List D} (h : Ls K S H a vs) (h2 : Ls K S H b ws) (r : reps K S H l vs) (r2 : reps K S H m ws) : Wk K S H (Itz K a b) (zipD l m) true := fun S' H' st => by
  have h' : SqL K H' a vs := (h.stb st).sq
  have h2' : SqL K H' b ws := (h2.stb st).sq
  refine ⟨fun i d e => ?_, ⟨vs, ws, h', h2', by rw [← r.length, ← r2.length]; exact zip_len l m⟩⟩
  obtain ⟨x, y, hx, hy, rfl⟩ := zip_get l m i d e
  obtain ⟨v, hv, rv⟩ := r.get hx
  obtain ⟨w, hw, rw'⟩ := r2.get hy
  refine ⟨⟨vs, ws, v, w, h', h2', hv, hw⟩, fun z H3 y => ?_⟩
  obtain ⟨T, x1, y1, e1, e2, e3, e4, e5⟩ := y
  have q1 := e4 vs h'
  have q2 := e5 ws h2'
  rw [hv] at q1
  rw [hw] at q2
  cases q1
  cases q2
  subst e1 e3
  exact pair_rep (rep.stb st _ _ rv) (rep.stb st _ _ rw') e2
theorem wk_zipT {K : PySem.W.Frag} {S : SP'} {H : Hp} {a b : Addr} {vs ws : List V} {l m : List D} (h : SqT K H a vs) (h2 : SqT K H b ws) (r : reps K S H l vs) (r2 : reps K S H m ws) : Wk K S H (RZ.ItzT K a b) (zipD l m) true := fun S' H' st => by
  have h' : SqT K H' a vs := SqT.stb st h
  have h2' : SqT K H' b ws := SqT.stb st h2
  refine ⟨fun i d e => ?_, ⟨vs, ws, h', h2', by rw [← r.length, ← r2.length]; exact zip_len l m⟩⟩
  obtain ⟨x, y, hx, hy, rfl⟩ := zip_get l m i d e
  obtain ⟨v, hv, rv⟩ := r.get hx
  obtain ⟨w, hw, rw'⟩ := r2.get hy
  refine ⟨⟨vs, ws, v, w, h', h2', hv, hw⟩, fun z H3 y => ?_⟩
  obtain ⟨T, x1, y1, e1, e2, e3, e4, e5⟩ := y
  have q1 := e4 vs h'
  have q2 := e5 ws h2'
  rw [hv] at q1
  rw [hw] at q2
  cases q1
  cases q2
  subst e1 e3
  exact pair_rep (rep.stb st _ _ rv) (rep.stb st _ _ rw') e2

/-! ### targets -/
/-- lent arguments keep their places -/
def bOk (B : List (Nat × Addr)) (σ : L2.St) : Prop := ∀ p ∈ B, σ[p.1]? = some (some (.ref p.2))
/-- but for these places the names hold what they held -/
def Out1 (ts : List Nat) (σ σ' : L2.St) : Prop := σ'.length = σ.length ∧ ∀ j, j ∉ ts → σ'[j]? = σ[j]?
theorem Out1.refl (ts : List Nat) (σ : L2.St) : Out1 ts σ σ := ⟨rfl, fun _ _ => rfl⟩
theorem Out1.trans {t1 t2 : List Nat} {σ σ1 σ2 : L2.St} (x : Out1 t1 σ σ1) (y : Out1 t2 σ1 σ2) : Out1 (t1 ++ t2) σ σ2 :=
  ⟨y.1.trans x.1, fun j h => by rw [List.mem_append, not_or] at h; exact (y.2 j h.2).trans (x.2 j h.1)⟩
theorem bOk.out {B : List (Nat × Addr)} {ts : List Nat} {σ σ' : L2.St} (h : bOk B σ) (o : Out1 ts σ σ') (hB : ∀ p ∈ B, p.1 ∉ ts) : bOk B σ' := fun p hp => (o.2 p.1 (hB p hp)).trans (h p hp)
def TGd (K : PySem.W.Frag) (ts : List Nat) (g : D → En → Option En) (Y : Bool := false) : TG := fun v σ H Q => ∃ S e fp d e', Wd K S H e fp σ ∧ RY K Y S H d v ∧ g d e = some e' ∧ ∀ σ' S' H' fp', Ext S H fp S' H' fp' → Wd K S' H' e' fp' σ' → Out1 ts σ σ' → Q σ' H'
structure DG (X : Cx) (ts : List Nat) (tg : Expr) (g : D → En → Option En) (Y : Bool := false) : Prop where
  p : PG X tg (TGd X.K ts g Y)
structure DGs (X : Cx) (ts : List Nat) (tgs : List Expr) (gs' : List (D → En → Option En)) : Prop where
  p : PGs X tgs (fun vs σ H Q => ∃ S e fp ds e', Wd X.K S H e fp σ ∧ reps X.K S H ds vs ∧ gs gs' ds e = some e' ∧ ∀ σ' S' H' fp', Ext S H fp S' H' fp' → Wd X.K S' H' e' fp' σ' → Out1 ts σ σ' → Q σ' H')
theorem PGm {tg : Expr} {t t' : TG} (h : PG X tg t) (k : ∀ v σ H Q, t' v σ H Q → t v σ H Q) : PG X tg t' := ⟨fun pins s σ H v u Q I r q => h.run pins s σ H v u Q I r (k v σ H Q q)⟩
theorem PGsm {tg : List Expr} {t t' : TGs} (h : PGs X tg t) (k : ∀ v σ H Q, t' v σ H Q → t v σ H Q) : PGs X tg t' := ⟨fun pins s σ H v u Q I r q => h.run pins s σ H v u Q I r (k v σ H Q q)⟩
/-- a place stored -/
theorem Wd.put {K : PySem.W.Frag} {S : SP'} {H : Hp} {e : En} {fp fx : List Addr} {σ : L2.St} {i : Nat} {x : Vl} {v : V} (wd : Wd K S H e fp σ) (sep : Sep S H (fx ++ fp)) (r : repV K S H x fx v) : ∃ fp', Wd K S H (e.set i (some x)) fp' (σ.set i (some v)) ∧ ∀ a ∈ fp', a ∈ fx ++ fp := by
  by_cases hi : i < e.length
  · obtain ⟨f1, f2, f3, ef, k⟩ := wd.env.put hi
    subst ef
    have nd := sep.nd
    have hsub : ∀ a ∈ f1 ++ (fx ++ f3), a ∈ fx ++ (f1 ++ (f2 ++ f3)) := fun a q => by
      simp only [List.mem_append] at q ⊢
      rcases q with q | q | q
      · exact .inr (.inl q)
      · exact .inl q
      · exact .inr (.inr (.inr q))
    refine ⟨f1 ++ (fx ++ f3), ⟨k S H (some x) fx (some v) (Stb.refl S H) (fun _ _ => rfl) ⟨v, rfl, r⟩, ⟨?_, fun a q => sep.ns a (hsub a q), fun a q => sep.ow a (hsub a q)⟩, wd.dom⟩, hsub⟩
    simp only [List.nodup_append, List.mem_append] at nd ⊢
    obtain ⟨n1, ⟨n2, ⟨n3, n4, n5⟩, n6⟩, n7⟩ := nd
    refine ⟨n2, ⟨n1, n4, fun a p b q => n7 a p b (.inr (.inr q))⟩, fun a p b q => ?_⟩
    rcases q with q | q
    · exact fun z => n7 b q a (.inl p) z.symm
    · exact n6 a p b (.inr q)
  · have h1 : e.set i (some x) = e := List.set_eq_of_length_le (by omega)
    have h2 : σ.set i (some v) = σ := List.set_eq_of_length_le (by rw [← wd.env.len]; omega)
    rw [h1, h2]
    exact ⟨fp, wd, fun a q => List.mem_append_right _ q⟩
theorem out_set (σ : L2.St) (i : Nat) (w : Option V) : Out1 [i] σ (σ.set i w) := ⟨List.length_set, fun j h => by
  simp at h
  exact List.getElem?_set_ne (Ne.symm h)⟩
theorem dg_n {i : Nat} {x : Str} (hN : X.N.Nodup) (hi : X.N[i]? = some x := by rfl) (hx : Loc X.env.scope x := by first | exact .inl rfl | exact .inr rfl) (hf : X.fn x = true ∨ X.env.scope.names.lookup x = some .local := by first | exact .inl rfl | exact .inr rfl | assumption) :
    DG X [i] (.Name x pos) (gN i) := ⟨PGm (pg_name hN hi hx hf) fun v σ H Q ⟨S, e, fp, d, e', wd, r, h, q⟩ => by
  cases h
  obtain ⟨fp', wd', sub⟩ := wd.put (fx := []) (x := .v d) (i := i) (by simpa using wd.sep) ⟨rfl, r⟩
  exact q _ S H fp' ((Ext.refl S H fp).sub (by simpa using sub)) wd' (out_set _ _ _)⟩
theorem dgs_nil : DGs X [] [] [] := ⟨PGsm pgs_nil fun v σ H Q ⟨S, e, fp, ds, e', wd, r, h, q⟩ => by
  cases ds with
  | nil =>
    unfold reps at r
    cases h
    exact ⟨r, q σ S H fp (Ext.refl S H fp) wd (Out1.refl _ _)⟩
  | cons _ _ => cases h⟩
theorem dgs_cons {t1 t2 : List Nat} {g : D → En → Option En} {gr : List (D → En → Option En)} {es : List Expr} (h1 : DG X t1 a g) (h2 : DGs X t2 es gr) (hs : (assignEach (a :: es) X.env).map (·.2) = assign a X.env :: (assignEach es X.env).map (·.2) := by rfl) : DGs X (t1 ++ t2) (a :: es) (g :: gr) :=
  ⟨PGsm (pgs_cons h1.p h2.p hs) fun v σ H Q ⟨S, e, fp, ds, e', wd, r, h, q⟩ => by
    cases ds with
    | nil => cases h
    | cons d ds =>
      unfold reps at r
      obtain ⟨v0, r0, e0, r1, r2⟩ := r
      subst e0
      simp only [gs] at h
      cases hg : g d e with
      | none => rw [hg] at h; cases h
      | some e1 =>
        rw [hg] at h
        exact ⟨v0, r0, rfl, S, e, fp, d, e1, wd, r1, hg, fun σ' S' H' fp' x' wd' o' => ⟨S', e1, fp', ds, e', wd', reps.stb (x'.stb wd.sep) _ _ r2, h, fun σ2 S2 H2 fp2 x2 wd2 o2 => q σ2 S2 H2 fp2 (x'.trans x2) wd2 (o'.trans o2)⟩⟩⟩
theorem gs_len : ∀ {gr : List (D → En → Option En)} {l : List D} {e e' : En}, gs gr l e = some e' → l.length = gr.length
  | [], [], _, _, _ => rfl
  | [], _ :: _, _, _, h => by cases h
  | _ :: _, [], _, _, h => by cases h
  | g :: gr, d :: l, e, e', h => by
    simp only [gs] at h
    cases hg : g d e with
    | none => rw [hg] at h; cases h
    | some e1 => rw [hg] at h; simp [gs_len h]
theorem dg_t {Y : Bool} {ts : List Nat} {gr : List (D → En → Option En)} {es : List Expr} {k : Nat} (hc : X.calm = true) (h : DGs X ts es gr) (hl : gr.length = (assignEach es X.env).length := by rfl) (hst : (assignEach es X.env).findIdx? (·.1) = none := by rfl) :
    DG X ts (.Tuple es k pos) (gT gr) Y := ⟨PGm (pg_tup hc h.p rfl hst) fun v σ H Q ⟨S, e, fp, d, e', wd, r, h, q⟩ => by
  unfold gT at h
  cases d with
  | tup l =>
    dsimp only at h
    have r' : ∃ a vs, v = .ref a ∧ SqT X.K H a vs ∧ reps X.K S H l vs := by
      cases Y with
      | false =>
        have r2 : rep X.K S H (.tup l) v := r
        unfold rep at r2
        obtain ⟨a, vs, e1, e2, e3⟩ := r2
        exact ⟨a, vs, e1, e2.sq, e3⟩
      | true =>
        obtain ⟨ds, a, vs, e0, e1, e2, e3⟩ := r
        cases e0
        exact ⟨a, vs, e1, e2, e3⟩
    obtain ⟨a0, vs, e0, h1, h2⟩ := r'
    exact ⟨a0, vs, e0, h1, by rw [← h2.length, gs_len h, hl], S, e, fp, l, e', wd, h2, h, q⟩
  | _ => cases h⟩
end
end Fx
end

section
set_option Elab.async false
set_option linter.all false
set_option maxRecDepth 100000
set_option maxHeartbeats 4000000
/-! Wi: comprehensions. -/
namespace Fx
open PySem PySem.Spec PyProof.Rows L2

/-- nothing is raised -/
abbrev W0 : WX := fun _ _ _ _ => False
theorem wipe_get (σ : L2.St) : ∀ (vs : List Nat) (j : Nat), (wipe σ vs)[j]? = if j ∈ vs then (if j < σ.length then some none else none) else σ[j]?
  | [], j => by simp [wipe]
  | v :: vs, j => by
    unfold wipe
    by_cases h : v = j
    · subst h
      by_cases hl : v < σ.length
      · rw [List.getElem?_set_self (by rw [wipe_length]; exact hl)]; simp [hl]
      · rw [List.getElem?_eq_none (by rw [List.length_set, wipe_length]; omega)]; simp [hl]
    · rw [List.getElem?_set_ne h, wipe_get σ vs j]
      simp [Ne.symm h]
theorem wipe_out {ts vs : List Nat} {σ σ2 : L2.St} (o : Out1 ts σ σ2) (h : ∀ i ∈ ts, i ∈ vs) : wipe σ2 vs = wipe σ vs := by
  apply List.ext_getElem?
  intro j
  rw [wipe_get, wipe_get, o.1]
  by_cases hj : j ∈ vs
  · simp [hj]
  · simp only [hj, if_false]
    exact o.2 j fun z => hj (h j z)
theorem wipe_wipe {vs ws : List Nat} {σ : L2.St} (h : ∀ i ∈ ws, i ∈ vs) : wipe (wipe σ ws) vs = wipe σ vs := wipe_out (ts := ws) ⟨wipe_length _ _, fun j hj => by rw [wipe_get]; simp [hj]⟩ h
/-- the names of a block are forgotten -/
theorem Wd.hide {K : PySem.W.Frag} {S : SP'} {H : Hp} {σ : L2.St} : ∀ {vs : List Nat} {e : En} {fp : List Addr}, Wd K S H e fp σ → ∃ fp', Wd K S H (Fx.hide e vs) fp' (wipe σ vs) ∧ ∀ a ∈ fp', a ∈ fp
  | [], e, fp, wd => ⟨fp, wd, fun _ h => h⟩
  | i :: r, e, fp, wd => by
    obtain ⟨fp1, wd1, sub1⟩ := Wd.hide (vs := r) wd
    unfold Fx.hide L2.wipe
    by_cases hi : i < (Fx.hide e r).length
    · obtain ⟨f1, f2, f3, ef, k⟩ := wd1.env.put hi
      subst ef
      have hsub : ∀ a ∈ f1 ++ f3, a ∈ f1 ++ (f2 ++ f3) := fun a q => by
        simp only [List.mem_append] at q ⊢
        rcases q with q | q
        · exact .inl q
        · exact .inr (.inr q)
      have nd := wd1.sep.nd
      refine ⟨f1 ++ f3, ⟨by simpa using k S H none [] none (Stb.refl S H) (fun _ _ => rfl) rfl, ⟨?_, fun a q => wd1.sep.ns a (hsub a q), fun a q => wd1.sep.ow a (hsub a q)⟩, wd1.dom⟩, fun a q => sub1 a (hsub a q)⟩
      simp only [List.nodup_append, List.mem_append] at nd ⊢
      exact ⟨nd.1, nd.2.1.2.1, fun a p b q => nd.2.2 a p b (.inr q)⟩
    · have h1 : (Fx.hide e r).set i none = Fx.hide e r := List.set_eq_of_length_le (by omega)
      have h2 : (L2.wipe σ r).set i none = L2.wipe σ r := List.set_eq_of_length_le (by rw [← wd1.env.len]; omega)
      rw [h1, h2]
      exact ⟨fp1, wd1, sub1⟩
def back (old s : L2.St) : List Nat → L2.St
  | [] => s
  | i :: r => (back old s r).set i (old[i]?.join)
theorem back_len (old s : L2.St) : ∀ vs, (back old s vs).length = s.length
  | [] => rfl
  | i :: r => by unfold back; rw [List.length_set, back_len old s r]
theorem back_get (old s : L2.St) : ∀ (vs : List Nat) (j : Nat), (back old s vs)[j]? = if j ∈ vs then (if j < s.length then some (old[j]?.join) else none) else s[j]?
  | [], j => by simp [back]
  | v :: vs, j => by
    unfold back
    by_cases h : v = j
    · subst h
      by_cases hl : v < s.length
      · rw [List.getElem?_set_self (by rw [back_len]; exact hl)]; simp [hl]
      · rw [List.getElem?_eq_none (by rw [List.length_set, back_len]; omega)]; simp [hl]
    · rw [List.getElem?_set_ne h, back_get old s vs j]
      simp [Ne.symm h]
theorem back_wipe (σ : L2.St) (vs : List Nat) : back σ (wipe σ vs) vs = σ := by
  apply List.ext_getElem?
  intro j
  rw [back_get, wipe_get, wipe_length]
  by_cases hj : j ∈ vs
  · simp only [hj, if_true]
    by_cases hl : j < σ.length
    · simp only [hl, if_true, List.getElem?_eq_getElem hl, Option.join_some]
    · simp only [hl, if_false]
      rw [List.getElem?_eq_none (by omega)]
  · simp [hj]
theorem Wd.unhide {K : PySem.W.Frag} {S S1 : SP'} {H H1 : Hp} {e1 : En} {fp1 : List Addr} {σ s : L2.St} (wd1 : Wd K S1 H1 e1 fp1 σ) (st : Stb S1 H1 S H) (hlen : s.length = σ.length) :
    ∀ {vs : List Nat} {e : En} {fp : List Addr}, Wd K S H e fp s → ∃ fp', Wd K S H (Fx.unhide e1 e vs) fp' (back σ s vs) ∧ ∀ a ∈ fp', a ∈ fp
  | [], e, fp, wd => ⟨fp, wd, fun _ h => h⟩
  | i :: r, e, fp, wd => by
    obtain ⟨fp2, wd2, sub2⟩ := Wd.unhide (vs := r) wd1 st hlen wd
    unfold Fx.unhide back
    by_cases hi : i < (Fx.unhide e1 e r).length
    · obtain ⟨f1, f2, f3, ef, k⟩ := wd2.env.put hi
      subst ef
      have hsub : ∀ a ∈ f1 ++ f3, a ∈ f1 ++ (f2 ++ f3) := fun a q => by
        simp only [List.mem_append] at q ⊢
        rcases q with q | q
        · exact .inl q
        · exact .inr (.inr q)
      have nd := wd2.sep.nd
      have env : envR K S H ((Fx.unhide e1 e r).set i (keepD e1[i]?)) (f1 ++ ([] ++ f3)) ((back σ s r).set i (σ[i]?.join)) := by
        refine k S H (keepD e1[i]?) [] (σ[i]?.join) (Stb.refl S H) (fun _ _ => rfl) ?_
        unfold keepD
        split
        · rename_i y hy
          split at hy
          · rename_i d he
            cases hy
            obtain ⟨v, fx, h1, h2, _⟩ := wd_at wd1 he
            exact ⟨v, by rw [h1]; rfl, rfl, rep.stb st d v h2.2⟩
          · cases hy
        · rfl
      refine ⟨f1 ++ f3, ⟨by simpa using env, ⟨?_, fun a q => wd2.sep.ns a (hsub a q), fun a q => wd2.sep.ow a (hsub a q)⟩, wd2.dom⟩, fun a q => sub2 a (hsub a q)⟩
      simp only [List.nodup_append, List.mem_append] at nd ⊢
      exact ⟨nd.1, nd.2.1.2.1, fun a p b q => nd.2.2 a p b (.inr q)⟩
    · have h1 : (Fx.unhide e1 e r).set i (keepD e1[i]?) = Fx.unhide e1 e r := List.set_eq_of_length_le (by omega)
      have h2 : (back σ s r).set i (σ[i]?.join) = back σ s r := List.set_eq_of_length_le (by rw [← wd2.env.len]; omega)
      rw [h1, h2]
      exact ⟨fp2, wd2, sub2⟩
/-- a list of one's own beside is written -/
theorem Wd.write {K : PySem.W.Frag} {S : SP'} {H : Hp} {e : En} {fp : List Addr} {σ : L2.St} {p : Addr} {vs ws : List V} (wd : Wd K S H e fp σ) (sep : Sep S H ([p] ++ fp)) (hp : H p = some (.lst vs)) : Wd K S (upd H p (.lst ws)) e fp σ ∧ Stb S H S (upd H p (.lst ws)) ∧ Sep S (upd H p (.lst ws)) ([p] ++ fp) := by
  have nS : ¬ S p := sep.ns p (by simp)
  have st : Stb S H S (upd H p (.lst ws)) := ⟨fun _ h => h, fun a o h q => by
    by_cases hb : a = p
    · subst hb; rw [hp] at h; cases h; exact absurd q nS
    · rw [upd_ne hb]; exact h⟩
  have ne : ∀ a ∈ fp, a ≠ p := fun a q z => by subst z; exact sep.apart (by simp) q
  have ow : ∀ a ∈ [p] ++ fp, ∃ o, upd H p (.lst ws) a = some o ∧ Ow o := fun a q => by
    rcases List.mem_append.mp q with q | q
    · simp at q; subst q; exact ⟨_, upd_same, trivial⟩
    · rw [upd_ne (ne a q)]; exact sep.ow a (List.mem_append_right _ q)
  refine ⟨⟨envR.stb st e fp σ (fun a q => upd_ne (ne a q)) wd.env, ⟨wd.sep.nd, wd.sep.ns, fun a q => ow a (List.mem_append_right _ q)⟩, fun a q => ?_⟩, st, ⟨sep.nd, sep.ns, ow⟩⟩
  obtain ⟨xs, h⟩ := wd.dom a q
  exact ⟨xs, by rw [upd_ne (show a ≠ p from fun z => by subst z; exact nS q)]; exact h⟩
theorem Ext.write {S S1 : SP'} {H H1 : Hp} {fp fp1 : List Addr} {p : Addr} {ws : List V} (x : Ext S H fp S1 H1 ([p] ++ fp1)) (hp : H p = none) : Ext S H fp S1 (upd H1 p (.lst ws)) ([p] ++ fp1) :=
  ⟨fun a o h q => by rw [upd_ne (ne_of_none h hp)]; exact x.keep a o h q, x.fresh, x.mono, x.sfr⟩

section
variable {Y Y1 : Bool} {X : Cx} {W : WX} {a b c : Expr} {pos : Pos} {m n : M Vl}
/-- a clause's tests -/
structure DTs (X : Cx) (ifs : List Expr) (t : M Bool) : Prop where
  p : PTs X ifs (TR X.K X.mg W0 RB t)
theorem dts_nil : DTs X [] Fx.tYes := ⟨⟨fun pins s σ H Q I ⟨S, e, fp, wd, p⟩ => pts_nil.run pins s σ H Q I (p S H fp [] true (Ext.refl S H fp) wd wd.sep ⟨rfl, rfl⟩)⟩⟩
theorem dts_one {t : M Bool} (h : DT X W0 a t) : DTs X [a] t := ⟨pts_one h.p⟩

/-- what holds between two turns of a comprehension: acc is made so far, at D -/
structure CI (K : PySem.W.Frag) (S1 : SP') (H1 : Hp) (fp1 : List Addr) (D' : Addr) (σw : L2.St) (e : En) (acc : List D) (H : Hp) (S : SP') (fp : List Addr) : Prop where
  ext : Ext S1 H1 fp1 S H ([D'] ++ fp)
  wd : Wd K S H e fp σw
  sep : Sep S H ([D'] ++ fp)
  at_ : ∃ vs, H D' = some (.lst vs) ∧ reps K S H acc vs

theorem CI.start {K : PySem.W.Frag} {S1 : SP'} {H1 : Hp} {e1 : En} {fp1 : List Addr} {σ : L2.St} {vs : List Nat} {D' : Addr} (wd1 : Wd K S1 H1 e1 fp1 σ) (hD : H1 D' = none) : ∃ fp, CI K S1 H1 fp1 D' (wipe σ vs) (Fx.hide e1 vs) [] (upd H1 D' (.lst [])) S1 fp := by
  obtain ⟨fp, wdh, sub⟩ := wd1.hide (vs := vs)
  obtain ⟨k, fr, sp, rt⟩ := fresh_lst (K := K) (S := S1) (ds := []) (vs := []) reps.nil hD wd1.dom
  exact ⟨fp, ((Ext.refl S1 H1 fp1).sub sub).grow k fr, wdh.grow k, wdh.sep.grow sp k fr, [], upd_same, reps.nil⟩
/-- a part of a turn: D' waits -/
theorem CI.step {K : PySem.W.Frag} {S1 S S2 : SP'} {H1 H H2 : Hp} {fp1 fp fp2 : List Addr} {D' : Addr} {σw σ2 : L2.St} {e e2 : En} {acc : List D} (c : CI K S1 H1 fp1 D' σw e acc H S fp) (x : Ext S H fp S2 H2 fp2) (wd2 : Wd K S2 H2 e2 fp2 σ2) : CI K S1 H1 fp1 D' σ2 e2 acc H2 S2 fp2 := by
  obtain ⟨s1, s2⟩ := c.sep.wait x wd2.sep
  obtain ⟨vs, h1, h2⟩ := c.at_
  exact ⟨c.ext.wait x, wd2, s1, vs, by rw [s2 D' (by simp)]; exact h1, reps.stb (x.stb c.wd.sep) _ _ h2⟩
theorem CI.same {K : PySem.W.Frag} {S1 S : SP'} {H1 H : Hp} {fp1 fp fp2 : List Addr} {D' : Addr} {σw σ2 : L2.St} {e e2 : En} {acc : List D} (c : CI K S1 H1 fp1 D' σw e acc H S fp) (wd2 : Wd K S H e2 fp2 σ2) (sub : ∀ a ∈ fp2, a ∈ fp) : CI K S1 H1 fp1 D' σ2 e2 acc H S fp2 :=
  c.step ((Ext.refl S H fp).sub sub) wd2
/-- an item is put behind -/
theorem CI.push {K : PySem.W.Frag} {S1 S : SP'} {H1 H : Hp} {fp1 fp : List Addr} {D' : Addr} {σw : L2.St} {e : En} {acc : List D} {d : D} {v : V} {vs : List V} (c : CI K S1 H1 fp1 D' σw e acc H S fp) (hD : H1 D' = none) (hv : H D' = some (.lst vs)) (rd : rep K S H d v) : CI K S1 H1 fp1 D' σw e (acc ++ [d]) (upd H D' (.lst (vs ++ [v]))) S fp := by
  obtain ⟨wd, st, sep⟩ := c.wd.write (ws := vs ++ [v]) c.sep hv
  obtain ⟨vs', h1, h2⟩ := c.at_
  rw [hv] at h1
  cases h1
  exact ⟨c.ext.write hD, wd, sep, _, upd_same, reps.stb st _ _ (h2.app (reps.cons rd reps.nil))⟩
theorem CI.stb {K : PySem.W.Frag} {S1 S : SP'} {H1 H : Hp} {fp1 fp : List Addr} {D' : Addr} {σw : L2.St} {e : En} {acc : List D} (c : CI K S1 H1 fp1 D' σw e acc H S fp) (sp : Sep S1 H1 fp1) : Stb S1 H1 S H := c.ext.stb sp

/-- reading a part inside a turn -/
theorem TR.run0 {α β : Type} {K : PySem.W.Frag} {mg : Str → Option Value} {R : SP' → Hp → α → List Addr → β → Prop} {m : M α} {S : SP'} {H : Hp} {e e' : En} {fp : List Addr} {σ : L2.St} {Q : β → Hp → Prop} {x : α} (wd : Wd K S H e fp σ) (hm : m e = .ok x e')
    (h : ∀ S' H' fp' fx v, Ext S H fp S' H' (fx ++ fp') → Wd K S' H' e' fp' σ → Sep S' H' (fx ++ fp') → R S' H' x fx v → Q v H') : TR K mg W0 R m σ H Q := ⟨S, e, fp, wd, by rw [hm]; exact h⟩

theorem lim_lt {n k : Nat} (h : n < k) (hk : k ≤ lim) : n < sizeLine := by rw [← lim_eq]; omega
/-- one turn's inner part: the tests, the item, the item put behind -/
theorem comp_item {K : PySem.W.Frag} {mg : Str → Option Value} {S1 S : SP'} {H1 H : Hp} {fp1 fp : List Addr} {D' : Addr} {σ2 : L2.St} {e1 : En} {acc : List D} {t : M Bool} {x : M Vl} {Nx : Hp → Prop} {cont : List D → En → Rs (List D)} {accF : List D} {eF : En}
    (c : CI K S1 H1 fp1 D' σ2 e1 acc H S fp) (hD : H1 D' = none) (hz : acc.length < sizeLine)
    (hres : (match t e1 with
      | .ok true e2 => (match x e2 with
        | .ok y e3 => (match y.d with
          | some z => cont (acc ++ [z]) e3
          | none => .bad)
        | _ => .bad)
      | .ok false e2 => cont acc e2
      | _ => .bad) = .ok accF eF)
    (hN : ∀ S' H' fp' e' acc', (acc'.length ≤ acc.length + 1) → CI K S1 H1 fp1 D' σ2 e' acc' H' S' fp' → cont acc' e' = .ok accF eF → Nx H') :
    TR K mg W0 RB t σ2 H (fun b H3 => if b = true then TR K mg W0 (repV K) x σ2 H3 (fun y H4 => ∃ ac, H4 D' = some (.lst ac) ∧ ac.length < sizeLine ∧ Nx (upd H4 D' (.lst (ac ++ [y])))) else Nx H3) := by
  cases ht : t e1 with
  | bad => simp [ht] at hres
  | ex _ _ => simp [ht] at hres
  | ok b e2 =>
    refine TR.run0 c.wd ht fun S3 H3 fp3 fx v ext3 wd3 sep3 rb => ?_
    obtain ⟨rfl, rfl⟩ := rb
    have c3 := c.step ext3 wd3
    cases v with
    | false =>
      simp only [ht] at hres
      rw [if_neg Bool.false_ne_true]
      exact hN S3 H3 fp3 e2 acc (Nat.le_succ _) c3 hres
    | true =>
      simp only [ht] at hres
      rw [if_pos rfl]
      cases hx : x e2 with
      | bad => simp [hx] at hres
      | ex _ _ => simp [hx] at hres
      | ok y e3 =>
        simp only [hx] at hres
        cases hy : y.d with
        | none => simp [hy] at hres
        | some z =>
          simp only [hy] at hres
          refine TR.run0 wd3 hx fun S4 H4 fp4 fy w ext4 wd4 sep4 ry => ?_
          obtain ⟨ext5, wd5, rz⟩ := froze_wait ext4 wd4 sep4 hy ry
          have c5 := c3.step ext5 wd5
          obtain ⟨vs, h1, h2⟩ := c5.at_
          refine ⟨vs, h1, by rw [← h2.length]; exact hz, ?_⟩
          exact hN _ _ fp4 e3 (acc ++ [z]) (by simp) (c5.push hD h1 rz) hres

/-- .. with what is read for good told -/
theorem comp_item2 {K : PySem.W.Frag} {mg : Str → Option Value} {S1 S : SP'} {H1 H : Hp} {fp1 fpb : List Addr} {D' : Addr} {σ2 : L2.St} {e1 : En} {acc : List D} {t : M Bool} {x : M Vl} {Nx : Hp → Prop} {cont : List D → En → Rs (List D)} {accF : List D} {eF : En}
    (c : CI K S1 H1 fp1 D' σ2 e1 acc H S fpb) (hD : H1 D' = none) (hz : acc.length < sizeLine)
    (hres : (match t e1 with
      | .ok true e2 => (match x e2 with
        | .ok y e3 => (match y.d with
          | some z => cont (acc ++ [z]) e3
          | none => .bad)
        | _ => .bad)
      | .ok false e2 => cont acc e2
      | _ => .bad) = .ok accF eF)
    (hN : ∀ S' H' fp' e' acc', Stb S H S' H' → (acc'.length ≤ acc.length + 1) → CI K S1 H1 fp1 D' σ2 e' acc' H' S' fp' → cont acc' e' = .ok accF eF → Nx H') :
    TR K mg W0 RB t σ2 H (fun b H3 => if b = true then TR K mg W0 (repV K) x σ2 H3 (fun y H4 => ∃ ac, H4 D' = some (.lst ac) ∧ ac.length < sizeLine ∧ Nx (upd H4 D' (.lst (ac ++ [y])))) else Nx H3) := by
  cases ht : t e1 with
  | bad => simp [ht] at hres
  | ex _ _ => simp [ht] at hres
  | ok b e2 =>
    refine TR.run0 c.wd ht fun S3 H3 fp3 fx v ext3 wd3 sep3 rb => ?_
    obtain ⟨rfl, rfl⟩ := rb
    have c3 := c.step ext3 wd3
    have st3 : Stb S H S3 H3 := Ext.stb (fp1 := fp3) ext3 c.wd.sep
    cases v with
    | false =>
      simp only [ht] at hres
      rw [if_neg Bool.false_ne_true]
      exact hN S3 H3 fp3 e2 acc st3 (Nat.le_succ _) c3 hres
    | true =>
      simp only [ht] at hres
      rw [if_pos rfl]
      cases hx : x e2 with
      | bad => simp [hx] at hres
      | ex _ _ => simp [hx] at hres
      | ok y e3 =>
        simp only [hx] at hres
        cases hy : y.d with
        | none => simp [hy] at hres
        | some z =>
          simp only [hy] at hres
          refine TR.run0 wd3 hx fun S4 H4 fp4 fy w ext4 wd4 sep4 ry => ?_
          obtain ⟨ext5, wd5, rz⟩ := froze_wait ext4 wd4 sep4 hy ry
          have c5 := c3.step ext5 wd5
          have st5 := st3.trans (ext5.stb wd3.sep)
          obtain ⟨vs, h1, h2⟩ := c5.at_
          refine ⟨vs, h1, by rw [← h2.length]; exact hz, ?_⟩
          obtain ⟨_, st6, _⟩ := c5.wd.write (ws := vs ++ [w]) c5.sep h1
          exact hN _ _ fp4 e3 (acc ++ [z]) (st5.trans st6) (by simp) (c5.push hD h1 rz) hres

theorem comp_tr {vs ts : List Nat} {it : M (List D)} {g : D → En → Option En} {t : M Bool} {x : M Vl} (hts : ∀ i ∈ ts, i ∈ vs) {σ : L2.St} {H : Hp} {Q : VK} (h : TR X.K X.mg W (repV X.K) (eComp vs it g t x) σ H Q) :
    tLc (fun σ H R => TR X.K X.mg W (fun S H ds fx (J : It) => fx = [] ∧ Wk X.K S H J ds Y) it σ H R) (TGd X.K ts g Y) (TR X.K X.mg W0 RB t) (TR X.K X.mg W0 (repV X.K) x) vs σ H Q := by
  refine TR.bind (R' := repV X.K) (k := fun l e1 => if l.length ≤ lim then (match compGo vs g t x l [] (Fx.hide e1 vs) with | .ok acc e2 => .ok (.o acc) (Fx.unhide e1 e2 vs) | _ => .bad) else .bad) (Q := Q) h fun S e fp S1 H1 e1 fp1 fx l J wd ext wd1 sep1 rj p => ?_
  obtain ⟨rfl, wk⟩ := rj
  split at p
  · rename_i hl
    cases hr : compGo vs g t x l [] (Fx.hide e1 vs) with
    | bad => simp [hr, Rs.post] at p
    | ex _ _ => simp [hr, Rs.post] at p
    | ok accF eF =>
      simp only [hr, Rs.post] at p
      intro D' hD
      refine ⟨fun i m H' => m = l.length - i ∧ i ≤ l.length ∧ ∃ S' fp' e' acc, acc.length ≤ i ∧ CI X.K S1 H1 fp1 D' (wipe σ vs) e' acc H' S' fp' ∧ compGo vs g t x (l.drop i) acc e' = .ok accF eF, ⟨l.length, by simp, Nat.zero_le _, ?_⟩, ?_⟩
      · obtain ⟨fp', ci⟩ := CI.start (vs := vs) wd1 hD
        exact ⟨S1, fp', _, [], Nat.le_refl _, ci, by simpa using hr⟩
      · rintro i m H' ⟨rfl, hi, S', fp', e', acc, hacc, ci, hgo⟩
        obtain ⟨wk1, wk2⟩ := wk S' H' (ci.stb wd1.sep)
        by_cases hlt : i < l.length
        · have hd : l.drop i = l[i] :: l.drop (i + 1) := List.drop_eq_getElem_cons hlt
          obtain ⟨go, yl⟩ := wk1 i l[i] (by simp [hlt])
          refine .inr ⟨go, fun H2 => ∃ S' fp' e' acc, acc.length ≤ i + 1 ∧ CI X.K S1 H1 fp1 D' (wipe σ vs) e' acc H2 S' fp' ∧ compGo vs g t x (l.drop (i + 1)) acc e' = .ok accF eF, fun H2 h2 => ⟨l.length - (i + 1), by omega, rfl, hlt, h2⟩, fun y H2 hy => ?_⟩
          obtain ⟨gr, ry⟩ := yl y H2 hy
          have ci2 : CI X.K S1 H1 fp1 D' (wipe σ vs) e' acc H2 S' fp' := ci.step ((Ext.refl S' H' fp').grow (fz := []) gr (fun _ q => absurd q (by simp))) (ci.wd.grow gr)
          rw [hd] at hgo
          unfold compGo at hgo
          cases hgd : g l[i] e' with
          | none => simp [hgd] at hgo
          | some e2 =>
            simp only [hgd] at hgo
            refine ⟨S', e', fp', l[i], e2, ci2.wd, ry, hgd, fun σ2 Sg Hg fp2 xg wd2 o2 => ?_⟩
            have ew : wipe σ2 vs = wipe σ vs := by
              have h1 := wipe_out (vs := vs) o2 hts
              rw [h1]
              exact wipe_wipe fun _ h => h
            refine ⟨ew, ?_⟩
            have ci3 := ci2.step xg wd2
            refine comp_item (cont := fun acc e3 => compGo vs g t x (l.drop (i + 1)) acc (Fx.hide e3 vs)) ci3 hD (lim_lt (Nat.lt_of_le_of_lt hacc hlt) hl) hgo fun S4 H4 fp4 e4 acc4 hle ci4 hc4 => ?_
            obtain ⟨fp5, wd5, sub5⟩ := ci4.wd.hide (vs := vs)
            rw [ew] at wd5
            exact ⟨S4, fp5, _, acc4, by omega, ci4.same wd5 sub5, hc4⟩
        · have ei : i = l.length := by omega
          subst ei
          refine .inl ⟨wk2, ?_⟩
          rw [List.drop_length] at hgo
          unfold compGo at hgo
          cases hgo
          obtain ⟨fp6, wd6, sub6⟩ := Wd.unhide wd1 (ci.stb wd1.sep) (wipe_length σ vs) (vs := vs) ci.wd
          rw [back_wipe] at wd6
          have ci6 := ci.same wd6 sub6
          obtain ⟨ws, h1, h2⟩ := ci6.at_
          exact p S' H' fp6 [D'] _ (ext.trans ci6.ext) wd6 ci6.sep ⟨D', ws, rfl, rfl, h1, h2⟩
  · exact p.elim
theorem de_comp {elt tg iter : Expr} {ifs : List Expr} {scope : Scope} {own : List (Str × Nat)} {ts : List Nat} {it : M (List D)} {g : D → En → Option En} {t : M Bool} {x : M Vl} (hc : X.calm = true) (hN : X.N.Nodup) (hi : DI X W tg iter it Y) (ok : BlkOk X.N X.env.scope scope own)
    (hg : ∀ (s : Shared) (H : Hp) (C : Addr) (cl : List (Str × Addr)) (fp : List Addr), DG (X.blk s H scope (compEnvC scope cl C X.env) fp) ts tg g Y) (ht : ∀ (s : Shared) (H : Hp) (C : Addr) (cl : List (Str × Addr)) (fp : List Addr), DTs (X.blk s H scope (compEnvC scope cl C X.env) fp) ifs t)
    (he : ∀ (s : Shared) (H : Hp) (C : Addr) (cl : List (Str × Addr)) (fp : List Addr), DE (X.blk s H scope (compEnvC scope cl C X.env) fp) W0 elt x) (hts : ∀ i ∈ ts, i ∈ own.map (·.2) := by decide) (hs : ∀ x, foldedSetIterable iter X.env x = pure x := by intro _; rfl) :
    DE X W (.ListComp elt [⟨tg, iter, ifs, 0⟩] scope pos) (eComp (own.map (·.2)) it g t x) := by
  exact ⟨PEm (pe_lc (g := TGd X.K ts g Y) (tt := TR X.K X.mg W0 RB t) (te := TR X.K X.mg W0 (repV X.K) x) hc hN hi.p ok (fun s H C cl fp => (hg s H C cl fp).p) (fun s H C cl fp => (ht s H C cl fp).p) (fun s H C cl fp => (he s H C cl fp).p) hs) fun σ H Q h => comp_tr hts h⟩
theorem comp2_tr {vs vs1 ts ts1 : List Nat} {it it1 : M (List D)} {g g1 : D → En → Option En} {t t1 : M Bool} {x : M Vl} (hts : ∀ i ∈ ts, i ∈ vs) (hts1 : ∀ i ∈ ts1, i ∈ vs1) (hv : ∀ i ∈ vs1, i ∈ vs) {σ : L2.St} {H : Hp} {Q : VK} (h : TR X.K X.mg W (repV X.K) (eComp2 vs vs1 it g t it1 g1 t1 x) σ H Q) :
    tLc2 (fun σ H R => TR X.K X.mg W (fun S H ds fx (J : It) => fx = [] ∧ Wk X.K S H J ds Y) it σ H R) (TGd X.K ts g Y) (TR X.K X.mg W0 RB t) (fun σ H R => TR X.K X.mg W0 (fun S H ds fx (J : It) => fx = [] ∧ Wk X.K S H J ds Y1) it1 σ H R) (TGd X.K ts1 g1 Y1) (TR X.K X.mg W0 RB t1) (TR X.K X.mg W0 (repV X.K) x) vs vs1 σ H Q := by
  refine TR.bind (R' := repV X.K) (k := fun l e1 => match compGo2 vs vs1 g t it1 g1 t1 x l [] (Fx.hide e1 vs) with | .ok acc e2 => .ok (.o acc) (Fx.unhide e1 e2 vs) | _ => .bad) (Q := Q) h fun S e fp S1 H1 e1 fp1 fx l J wd ext wd1 sep1 rj p => ?_
  obtain ⟨rfl, wk⟩ := rj
  cases hr : compGo2 vs vs1 g t it1 g1 t1 x l [] (Fx.hide e1 vs) with
  | bad => simp [hr, Rs.post] at p
  | ex _ _ => simp [hr, Rs.post] at p
  | ok accF eF =>
    simp only [hr, Rs.post] at p
    intro D' hD
    refine ⟨fun i m H' => m = l.length - i ∧ i ≤ l.length ∧ ∃ S' fp' e' acc, CI X.K S1 H1 fp1 D' (wipe σ vs) e' acc H' S' fp' ∧ compGo2 vs vs1 g t it1 g1 t1 x (l.drop i) acc e' = .ok accF eF, ⟨l.length, by simp, Nat.zero_le _, ?_⟩, ?_⟩
    · obtain ⟨fp', ci⟩ := CI.start (vs := vs) wd1 hD
      exact ⟨S1, fp', _, [], ci, by simpa using hr⟩
    · rintro i m H' ⟨rfl, hi, S', fp', e', acc, ci, hgo⟩
      obtain ⟨wk1, wk2⟩ := wk S' H' (ci.stb wd1.sep)
      by_cases hlt : i < l.length
      · have hd : l.drop i = l[i] :: l.drop (i + 1) := List.drop_eq_getElem_cons hlt
        obtain ⟨go, yl⟩ := wk1 i l[i] (by simp [hlt])
        refine .inr ⟨go, fun H2 => ∃ S' fp' e' acc, CI X.K S1 H1 fp1 D' (wipe σ vs) e' acc H2 S' fp' ∧ compGo2 vs vs1 g t it1 g1 t1 x (l.drop (i + 1)) acc e' = .ok accF eF, fun H2 h2 => ⟨l.length - (i + 1), by omega, rfl, hlt, h2⟩, fun y H2 hy => ?_⟩
        obtain ⟨gr, ry⟩ := yl y H2 hy
        have ci2 : CI X.K S1 H1 fp1 D' (wipe σ vs) e' acc H2 S' fp' := ci.step ((Ext.refl S' H' fp').grow (fz := []) gr (fun _ q => absurd q (by simp))) (ci.wd.grow gr)
        rw [hd] at hgo
        unfold compGo2 at hgo
        cases hgd : g l[i] e' with
        | none => simp [hgd] at hgo
        | some e2 =>
          simp only [hgd] at hgo
          refine ⟨S', e', fp', l[i], e2, ci2.wd, ry, hgd, fun σ2 Sg Hg fp2 xg wd2 o2 => ?_⟩
          have ew : wipe σ2 vs = wipe σ vs := by
            have h1 := wipe_out (vs := vs) o2 hts
            rw [h1]
            exact wipe_wipe fun _ h => h
          refine ⟨ew, ?_⟩
          have ci3 := ci2.step xg wd2
          cases htt : t e2 with
          | bad => simp [htt] at hgo
          | ex _ _ => simp [htt] at hgo
          | ok b e3 =>
            refine TR.run0 ci3.wd htt fun S3 H3 fp3 fx3 v3 ext3 wd3 sep3 rb => ?_
            obtain ⟨rfl, rfl⟩ := rb
            have ci4 := ci3.step ext3 wd3
            cases v3 with
            | false =>
              simp only [htt] at hgo
              rw [if_neg Bool.false_ne_true]
              obtain ⟨fp5, wd5, sub5⟩ := ci4.wd.hide (vs := vs)
              rw [ew] at wd5
              exact ⟨S3, fp5, _, acc, ci4.same wd5 sub5, hgo⟩
            | true =>
              simp only [htt] at hgo
              rw [if_pos rfl]
              cases hit : it1 e3 with
              | bad => simp [hit] at hgo
              | ex _ _ => simp [hit] at hgo
              | ok l1 e4 =>
                simp only [hit] at hgo
                split at hgo
                · rename_i hlim
                  cases hin : compGo vs1 g1 t1 x l1 acc (Fx.hide e4 vs1) with
                  | bad => simp [hin] at hgo
                  | ex _ _ => simp [hin] at hgo
                  | ok acc2 e5 =>
                    simp only [hin] at hgo
                    refine TR.run0 wd3 hit fun S4 H4 fp4 fx4 J1 ext4 wd4 sep4 rj1 => ?_
                    obtain ⟨rfl, wkb⟩ := rj1
                    have ci5 := ci4.step ext4 wd4
                    refine ⟨fun j k H' => k = l1.length - j ∧ j ≤ l1.length ∧ ∃ S' fp' e' ac, ac.length ≤ acc.length + j ∧ Stb S4 H4 S' H' ∧ CI X.K S1 H1 fp1 D' (wipe σ2 vs1) e' ac H' S' fp' ∧ compGo vs1 g1 t1 x (l1.drop j) ac e' = .ok acc2 e5, ⟨l1.length, by simp, Nat.zero_le _, ?_⟩, ?_⟩
                    · obtain ⟨fp6, wd6, sub6⟩ := ci5.wd.hide (vs := vs1)
                      exact ⟨S4, fp6, _, acc, Nat.le_refl _, Stb.refl _ _, ci5.same wd6 sub6, by simpa using hin⟩
                    · rintro j k H6 ⟨rfl, hj, S6, fp6, e6, ac, hac, st6, ci6, hgo6⟩
                      obtain ⟨wkb1, wkb2⟩ := wkb S6 H6 st6
                      by_cases hjl : j < l1.length
                      · have hd1 : l1.drop j = l1[j] :: l1.drop (j + 1) := List.drop_eq_getElem_cons hjl
                        obtain ⟨go1, yl1⟩ := wkb1 j l1[j] (by simp [hjl])
                        refine .inr ⟨go1, fun H2 => ∃ S' fp' e' ac, ac.length ≤ acc.length + (j + 1) ∧ Stb S4 H4 S' H2 ∧ CI X.K S1 H1 fp1 D' (wipe σ2 vs1) e' ac H2 S' fp' ∧ compGo vs1 g1 t1 x (l1.drop (j + 1)) ac e' = .ok acc2 e5, fun H2 h2 => ⟨l1.length - (j + 1), by omega, rfl, hjl, h2⟩, fun y1 H7 hy1 => ?_⟩
                        obtain ⟨gr1, ry1⟩ := yl1 y1 H7 hy1
                        have ci7 : CI X.K S1 H1 fp1 D' (wipe σ2 vs1) e6 ac H7 S6 fp6 := ci6.step ((Ext.refl S6 H6 fp6).grow (fz := []) gr1 (fun _ q => absurd q (by simp))) (ci6.wd.grow gr1)
                        rw [hd1] at hgo6
                        unfold compGo at hgo6
                        cases hgd1 : g1 l1[j] e6 with
                        | none => simp [hgd1] at hgo6
                        | some e7 =>
                          simp only [hgd1] at hgo6
                          refine ⟨S6, e6, fp6, l1[j], e7, ci7.wd, ry1, hgd1, fun σ3 Sh Hh fp7 xh wd7 o7 => ?_⟩
                          have ew1 : wipe σ3 vs1 = wipe σ2 vs1 := by
                            have h1 := wipe_out (vs := vs1) o7 hts1
                            rw [h1]
                            exact wipe_wipe fun _ h => h
                          refine ⟨ew1, ?_⟩
                          have ci8 := ci7.step xh wd7
                          have st7 : Stb S4 H4 Sh Hh := (st6.trans (Stb.grow gr1)).trans (xh.stb ci7.wd.sep)
                          -- the items made so far stand beside: D' is no part of what is read for good
                          refine comp_item2 (fpb := fp7) (cont := fun acc e3 => compGo vs1 g1 t1 x (l1.drop (j + 1)) acc (Fx.hide e3 vs1)) ci8 hD (lim_lt (Nat.lt_of_lt_of_le (Nat.lt_of_le_of_lt hac (by omega)) (Nat.le_refl (acc.length + l1.length))) hlim) hgo6 fun S8 H8 fp8 e8 ac8 st8 hle ci9 hc9 => ?_
                          obtain ⟨fp9, wd9, sub9⟩ := ci9.wd.hide (vs := vs1)
                          rw [ew1] at wd9
                          exact ⟨S8, fp9, _, ac8, by omega, st7.trans st8, ci9.same wd9 sub9, hc9⟩
                      · have ej : j = l1.length := by omega
                        subst ej
                        refine .inl ⟨wkb2, ?_⟩
                        rw [List.drop_length] at hgo6
                        unfold compGo at hgo6
                        cases hgo6
                        obtain ⟨fp7, wd7, sub7⟩ := ci6.wd.hide (vs := vs)
                        have e8 : wipe (wipe σ2 vs1) vs = wipe σ vs := (wipe_wipe hv).trans ew
                        rw [e8] at wd7
                        exact ⟨S6, fp7, _, acc2, ci6.same wd7 sub7, hgo⟩
                · cases hgo
      · have ei : i = l.length := by omega
        subst ei
        refine .inl ⟨wk2, ?_⟩
        rw [List.drop_length] at hgo
        unfold compGo2 at hgo
        cases hgo
        obtain ⟨fp6, wd6, sub6⟩ := Wd.unhide wd1 (ci.stb wd1.sep) (wipe_length σ vs) (vs := vs) ci.wd
        rw [back_wipe] at wd6
        have ci6 := ci.same wd6 sub6
        obtain ⟨ws, h1, h2⟩ := ci6.at_
        exact p S' H' fp6 [D'] _ (ext.trans ci6.ext) wd6 ci6.sep ⟨D', ws, rfl, rfl, h1, h2⟩
theorem de_comp2 {elt tg iter tg1 iter1 : Expr} {ifs ifs1 : List Expr} {scope : Scope} {own : List (Str × Nat)} {vs1 ts ts1 : List Nat} {it it1 : M (List D)} {g g1 : D → En → Option En} {t t1 : M Bool} {x : M Vl} (hc : X.calm = true) (hN : X.N.Nodup) (hi : DI X W tg iter it Y) (ok : BlkOk X.N X.env.scope scope own)
    (hg : ∀ (s : Shared) (H : Hp) (C : Addr) (cl : List (Str × Addr)) (fp : List Addr), DG (X.blk s H scope (compEnvC scope cl C X.env) fp) ts tg g Y) (ht : ∀ (s : Shared) (H : Hp) (C : Addr) (cl : List (Str × Addr)) (fp : List Addr), DTs (X.blk s H scope (compEnvC scope cl C X.env) fp) ifs t)
    (hi1 : ∀ (s : Shared) (H : Hp) (C : Addr) (cl : List (Str × Addr)) (fp : List Addr), DI (X.blk s H scope (compEnvC scope cl C X.env) fp) W0 tg1 iter1 it1 Y1)
    (hg1 : ∀ (s : Shared) (H : Hp) (C : Addr) (cl : List (Str × Addr)) (fp : List Addr), DG (X.blk s H scope (compEnvC scope cl C X.env) fp) ts1 tg1 g1 Y1) (ht1 : ∀ (s : Shared) (H : Hp) (C : Addr) (cl : List (Str × Addr)) (fp : List Addr), DTs (X.blk s H scope (compEnvC scope cl C X.env) fp) ifs1 t1)
    (he : ∀ (s : Shared) (H : Hp) (C : Addr) (cl : List (Str × Addr)) (fp : List Addr), DE (X.blk s H scope (compEnvC scope cl C X.env) fp) W0 elt x) (hts : ∀ i ∈ ts, i ∈ own.map (·.2) := by decide) (hts1 : ∀ i ∈ ts1, i ∈ vs1 := by decide) (hv : ∀ i ∈ vs1, i ∈ own.map (·.2) := by decide)
    (hs : ∀ x, foldedSetIterable iter X.env x = pure x := by intro _; rfl) (hs1 : ∀ env x, foldedSetIterable iter1 env x = pure x := by intro _ _; rfl) :
    DE X W (.ListComp elt [⟨tg, iter, ifs, 0⟩, ⟨tg1, iter1, ifs1, 0⟩] scope pos) (eComp2 (own.map (·.2)) vs1 it g t it1 g1 t1 x) := by
  exact ⟨PEm (pe_lc2 (vs1 := vs1) (g := TGd X.K ts g Y) (tt := TR X.K X.mg W0 RB t) (wi1 := fun σ H R => TR X.K X.mg W0 (fun S H ds fx (J : It) => fx = [] ∧ Wk X.K S H J ds Y1) it1 σ H R) (g1 := TGd X.K ts1 g1 Y1) (tt1 := TR X.K X.mg W0 RB t1) (te := TR X.K X.mg W0 (repV X.K) x) hc hN hi.p ok hv
    (fun s H C cl fp => (hg s H C cl fp).p) (fun s H C cl fp => (ht s H C cl fp).p) (fun s H C cl fp => (hi1 s H C cl fp).p) (fun s H C cl fp => (hg1 s H C cl fp).p) (fun s H C cl fp => (ht1 s H C cl fp).p) (fun s H C cl fp => (he s H C cl fp).p) hs hs1) fun σ H Q h => comp2_tr hts hts1 hv h⟩
end
end Fx
end

section
set_option Elab.async false
set_option linter.all false
set_option maxRecDepth 100000
set_option maxHeartbeats 4000000
/-! Wj: statements. -/
namespace Fx
open PySem PySem.Spec PyProof.Rows L2

/-- what is wanted behind a statement of plain meaning -/
def Out.post (r : Out) (nx : En → Prop) (rt : Vl → En → Prop) (bk ct : En → Prop) (E : Ex → En → Prop) : Prop :=
  match r with
  | .nxt e => nx e
  | .ret x e => rt x e
  | .brk e => bk e
  | .cnt e => ct e
  | .ex x e => E x e
  | .bad => False
def goOn (K : PySem.W.Frag) (B : List (Nat × Addr)) (S : SP') (H : Hp) (fp : List Addr) (P : L2.St → Hp → Prop) (e : En) : Prop :=
  ∀ S' H' fp' σ', Ext S H fp S' H' fp' → Wd K S' H' e fp' σ' → bOk B σ' → P σ' H'
def giveB (K : PySem.W.Frag) (B : List (Nat × Addr)) (S : SP') (H : Hp) (fp : List Addr) (P : V → Hp → Prop) (x : Vl) (e : En) : Prop :=
  ∀ S' H' fp' fx σ' v, Ext S H fp S' H' (fx ++ fp') → Wd K S' H' e fp' σ' → Sep S' H' (fx ++ fp') → bOk B σ' → repV K S' H' x fx v → P v H'
def exS (K : PySem.W.Frag) (mg : Str → Option Value) (B : List (Nat × Addr)) (W : WX) (S : SP') (H : Hp) (fp : List Addr) (x : Ex) (e : En) : Prop :=
  ∀ S' H' fp' σ' c dd, Ext S H fp S' H' fp' → Wd K S' H' e fp' σ' → bOk B σ' → exR K mg S' H' x c dd → W c dd σ' H'
def sPost (K : PySem.W.Frag) (mg : Str → Option Value) (B : List (Nat × Addr)) (W : WX) (D : Ends) (S : SP') (H : Hp) (fp : List Addr) (r : Out) : Prop :=
  r.post (goOn K B S H fp D.nx) (giveB K B S H fp D.rt) (goOn K B S H fp D.bk) (goOn K B S H fp D.ct) (exS K mg B W S H fp)
def TSx (K : PySem.W.Frag) (mg : Str → Option Value) (B : List (Nat × Addr)) (W : WX) (c : C) : TS := fun D σ H =>
  ∃ S e fp, Wd K S H e fp σ ∧ bOk B σ ∧ sPost K mg B W D S H fp (c e)
structure DS (X : Cx) (B : List (Nat × Addr)) (W : WX) (st : Stmt) (c : C) : Prop where
  p : PS X st (TSx X.K X.mg B W c)
structure DSs (X : Cx) (B : List (Nat × Addr)) (W : WX) (st : List Stmt) (c : C) : Prop where
  p : PSs X st (TSx X.K X.mg B W c)
theorem PSm {X : Cx} {e : Stmt} {t t' : TS} (h : PS X e t) (k : ∀ D σ H, t' D σ H → t D σ H) : PS X e t' := ⟨fun pins s σ H D I q => h.run pins s σ H D I (k D σ H q)⟩
theorem PSsm {X : Cx} {e : List Stmt} {t t' : TS} (h : PSs X e t) (k : ∀ D σ H, t' D σ H → t D σ H) : PSs X e t' := ⟨fun pins s σ H D I q => h.run pins s σ H D I (k D σ H q)⟩
section
variable {K : PySem.W.Frag} {mg : Str → Option Value} {B : List (Nat × Addr)} {W : WX} {D : Ends} {S S1 : SP'} {H H1 : Hp} {fp fp1 : List Addr}
theorem goOn.more {P : L2.St → Hp → Prop} {e : En} (h : goOn K B S H fp P e) (x : Ext S H fp S1 H1 fp1) : goOn K B S1 H1 fp1 P e := fun S' H' fp' σ' a b c => h S' H' fp' σ' (x.trans a) b c
theorem giveB.more {P : V → Hp → Prop} {x : Vl} {e : En} (h : giveB K B S H fp P x e) (y : Ext S H fp S1 H1 fp1) : giveB K B S1 H1 fp1 P x e := fun S' H' fp' fx σ' v a b c d f => h S' H' fp' fx σ' v (y.trans a) b c d f
theorem exS.more {x : Ex} {e : En} (h : exS K mg B W S H fp x e) (y : Ext S H fp S1 H1 fp1) : exS K mg B W S1 H1 fp1 x e := fun S' H' fp' σ' c dd a b bo d => h S' H' fp' σ' c dd (y.trans a) b bo d
theorem sPost.more {r : Out} (h : sPost K mg B W D S H fp r) (x : Ext S H fp S1 H1 fp1) : sPost K mg B W D S1 H1 fp1 r := by
  unfold sPost at h ⊢
  cases r with
  | nxt e => exact goOn.more h x
  | ret y e => exact giveB.more h x
  | brk e => exact goOn.more h x
  | cnt e => exact goOn.more h x
  | ex y e => exact exS.more h x
  | bad => exact h
theorem exW.of {x : Ex} {e : En} {σ : L2.St} (bo : bOk B σ) (h : exS K mg B W S H fp x e) : exW K mg W S H fp σ x e := fun S' H' fp' c dd a b d => h S' H' fp' σ c dd a b bo d
end
section
variable {Y Y1 : Bool} {X : Cx} {B : List (Nat × Addr)} {W : WX} {st : Stmt} {rest : List Stmt} {a b c : Expr} {pos : Pos} {m n : M Vl} {p q : C}
theorem dss_nil : DSs X B W [] sNil := ⟨PSsm pss_nil fun D σ H ⟨S, e, fp, wd, bo, h⟩ => h S H fp σ (Ext.refl S H fp) wd bo⟩
theorem dss_cons (h1 : DS X B W st p) (h2 : DSs X B W rest q) : DSs X B W (st :: rest) (sSeq p q) := by
  refine ⟨PSsm (pss_cons h1.p h2.p) fun D σ H ⟨S, e, fp, wd, bo, h⟩ => ⟨S, e, fp, wd, bo, ?_⟩⟩
  unfold sSeq at h
  cases hp : p e with
  | nxt e1 =>
    simp only [hp] at h
    exact fun S' H' fp' σ' x wd' bo' => ⟨S', e1, fp', wd', bo', h.more x⟩
  | ret _ _ => simp only [hp] at h; exact h
  | brk _ => simp only [hp] at h; exact h
  | cnt _ => simp only [hp] at h; exact h
  | ex _ _ => simp only [hp] at h; exact h
  | bad => simp only [hp] at h; exact h
theorem dss_one (h1 : DS X B W st p) : DSs X B W [st] p := ⟨pss_one h1.p⟩
theorem ds_pass : DS X B W (.Pass pos) sNil := ⟨PSm ps_pass fun D σ H ⟨S, e, fp, wd, bo, h⟩ => h S H fp σ (Ext.refl S H fp) wd bo⟩
theorem ds_break : DS X B W (.Break pos) (fun e => .brk e) := ⟨PSm ps_break fun D σ H ⟨S, e, fp, wd, bo, h⟩ => h S H fp σ (Ext.refl S H fp) wd bo⟩
theorem ds_cont : DS X B W (.Continue pos) (fun e => .cnt e) := ⟨PSm ps_continue fun D σ H ⟨S, e, fp, wd, bo, h⟩ => h S H fp σ (Ext.refl S H fp) wd bo⟩
theorem ds_doc {x j pos'} : DS X B W (.Expr (.Constant (.str x) j pos) pos') sNil := ⟨PSm ps_doc fun D σ H ⟨S, e, fp, wd, bo, h⟩ => h S H fp σ (Ext.refl S H fp) wd bo⟩
theorem ds_if {t : M Bool} {u v : List Stmt} (ht : DT X W c t) (h1 : DSs X B W u p) (h2 : DSs X B W v q) : DS X B W (.If c u v pos) (sIf t p q) := by
  refine ⟨PSm (ps_if ht.p h1.p h2.p) fun D σ H ⟨S, e, fp, wd, bo, h⟩ => ⟨S, e, fp, wd, ?_⟩⟩
  unfold sIf at h
  cases ht : t e with
  | ok k e1 =>
    simp only [ht] at h
    intro S' H' fp' fx v x wd' sp r
    obtain ⟨rfl, rfl⟩ := r
    cases v with
    | true => rw [if_pos rfl]; exact ⟨S', e1, fp', wd', bo, (by simpa using h : sPost X.K X.mg B W D S H fp (p e1)).more x⟩
    | false => rw [if_neg Bool.false_ne_true]; exact ⟨S', e1, fp', wd', bo, (by simpa using h : sPost X.K X.mg B W D S H fp (q e1)).more x⟩
  | ex _ _ => simp only [ht] at h; exact exW.of bo h
  | bad => simp only [ht] at h; exact h
theorem ds_ret (h1 : DE X W a m) : DS X B W (.Return (some a) pos) (sRet m) := by
  refine ⟨PSm (ps_ret h1.p) fun D σ H ⟨S, e, fp, wd, bo, h⟩ => ⟨S, e, fp, wd, ?_⟩⟩
  unfold sRet at h
  cases hm : m e with
  | ok k e1 => simp only [hm] at h; exact fun S' H' fp' fx v x wd' sp r => h S' H' fp' fx σ v x wd' sp bo r
  | ex _ _ => simp only [hm] at h; exact exW.of bo h
  | bad => simp only [hm] at h; exact h
theorem ds_retN : DS X B W (.Return none pos) (sRet (eC .non)) := ⟨PSm ps_retN fun D σ H ⟨S, e, fp, wd, bo, h⟩ => h S H fp [] σ .non (Ext.refl S H fp) wd wd.sep bo ⟨rfl, by unfold rep; rfl⟩⟩
theorem ds_drop (h1 : DE X W a m) (hs : swapsWith a none pos.line X.env = pure false := by rfl) : DS X B W (.Expr a pos) (sDrop m) := by
  refine ⟨PSm (ps_expr h1.p hs) fun D σ H ⟨S, e, fp, wd, bo, h⟩ => ⟨S, e, fp, wd, ?_⟩⟩
  unfold sDrop at h
  cases hm : m e with
  | ok k e1 => simp only [hm] at h; exact fun S' H' fp' fx v x wd' sp r => h S' H' fp' σ x.drop wd' bo
  | ex _ _ => simp only [hm] at h; exact exW.of bo h
  | bad => simp only [hm] at h; exact h
/-- a name stored -/
theorem set_tr {i : Nat} (hB : ∀ p ∈ B, p.1 ≠ i) {D : Ends} {σ : L2.St} {H : Hp} (h : TSx X.K X.mg B W (sSet i m) D σ H) : TR X.K X.mg W (repV X.K) m σ H (fun x H1 => D.nx (σ.set i (some x)) H1) := by
  obtain ⟨S, e, fp, wd, bo, h⟩ := h
  refine ⟨S, e, fp, wd, ?_⟩
  unfold sSet at h
  cases hm : m e with
  | ok k e1 =>
    simp only [hm] at h
    intro S' H' fp' fx v x wd' sp r
    obtain ⟨fp2, wd2, sub2⟩ := wd'.put (i := i) sp r
    exact h S' H' fp2 _ (x.sub sub2) wd2 (bo.out (out_set _ _ _) fun p hp => by simpa using hB p hp)
  | ex _ _ => simp only [hm] at h; exact exW.of bo h
  | bad => simp only [hm] at h; exact h
theorem ds_set {i : Nat} {x : Str} {pos' : Pos} (hN : X.N.Nodup) (h1 : DE X W a m) (hi : X.N[i]? = some x := by rfl) (hx : Loc X.env.scope x := by first | exact .inl rfl | exact .inr rfl) (hs : swapsWith a (some (.Name x pos')) pos.line X.env = pure false := by rfl) (hB : ∀ p ∈ B, p.1 ≠ i := by simp)
    (hf : X.fn x = true ∨ X.env.scope.names.lookup x = some .local := by first | exact .inl rfl | exact .inr rfl | assumption) : DS X B W (.Assign [.Name x pos'] a pos) (sSet i m) :=
  ⟨PSm (ps_set hN hi hx h1.p hs hf) fun D σ H h => set_tr hB h⟩
/-- name = [..] on one row -/
theorem ds_setC {i : Nat} {y : Str} {py spos : Pos} {elt tg iter : Expr} {ifs : List Expr} {scope : Scope} {own : List (Str × Nat)} {ts : List Nat} {it : M (List D)} {g : D → En → Option En} {t : M Bool} {x : M Vl} (hc : X.calm = true) (hN : X.N.Nodup) (hi : DI X W tg iter it Y) (ok : BlkOk X.N X.env.scope scope own)
    (hg : ∀ (s : Shared) (H : Hp) (C : Addr) (cl : List (Str × Addr)) (fp : List Addr), DG (X.blk s H scope (compEnvC scope cl C X.env) fp) ts tg g Y) (ht : ∀ (s : Shared) (H : Hp) (C : Addr) (cl : List (Str × Addr)) (fp : List Addr), DTs (X.blk s H scope (compEnvC scope cl C X.env) fp) ifs t)
    (he : ∀ (s : Shared) (H : Hp) (C : Addr) (cl : List (Str × Addr)) (fp : List Addr), DE (X.blk s H scope (compEnvC scope cl C X.env) fp) W0 elt x) (hts : ∀ i ∈ ts, i ∈ own.map (·.2) := by decide) (hy : X.N[i]? = some y := by rfl) (hyl : X.env.scope.names.lookup y = some .local := by rfl)
    (hsw : swapsWith (.ListComp elt [⟨tg, iter, ifs, 0⟩] scope pos) (some (.Name y py)) spos.line X.env = pure true := by rfl) (hB : ∀ p ∈ B, p.1 ≠ i := by simp) (hs : ∀ x, foldedSetIterable iter X.env x = pure x := by intro _; rfl) :
    DS X B W (.Assign [.Name y py] (.ListComp elt [⟨tg, iter, ifs, 0⟩] scope pos) spos) (sSet i (eComp (own.map (·.2)) it g t x)) :=
  ⟨PSm (ps_setLc (g := TGd X.K ts g Y) (tt := TR X.K X.mg W0 RB t) (te := TR X.K X.mg W0 (repV X.K) x) hc hN hy hyl hsw hi.p ok (fun s H C cl fp => (hg s H C cl fp).p) (fun s H C cl fp => (ht s H C cl fp).p) (fun s H C cl fp => (he s H C cl fp).p) hs) fun D σ H h => comp_tr hts (set_tr hB h)⟩
theorem ds_setC2 {i : Nat} {y : Str} {py spos : Pos} {elt tg iter tg1 iter1 : Expr} {ifs ifs1 : List Expr} {scope : Scope} {own : List (Str × Nat)} {vs1 ts ts1 : List Nat} {it it1 : M (List D)} {g g1 : D → En → Option En} {t t1 : M Bool} {x : M Vl} (hc : X.calm = true) (hN : X.N.Nodup) (hi : DI X W tg iter it Y) (ok : BlkOk X.N X.env.scope scope own)
    (hg : ∀ (s : Shared) (H : Hp) (C : Addr) (cl : List (Str × Addr)) (fp : List Addr), DG (X.blk s H scope (compEnvC scope cl C X.env) fp) ts tg g Y) (ht : ∀ (s : Shared) (H : Hp) (C : Addr) (cl : List (Str × Addr)) (fp : List Addr), DTs (X.blk s H scope (compEnvC scope cl C X.env) fp) ifs t)
    (hi1 : ∀ (s : Shared) (H : Hp) (C : Addr) (cl : List (Str × Addr)) (fp : List Addr), DI (X.blk s H scope (compEnvC scope cl C X.env) fp) W0 tg1 iter1 it1 Y1)
    (hg1 : ∀ (s : Shared) (H : Hp) (C : Addr) (cl : List (Str × Addr)) (fp : List Addr), DG (X.blk s H scope (compEnvC scope cl C X.env) fp) ts1 tg1 g1 Y1) (ht1 : ∀ (s : Shared) (H : Hp) (C : Addr) (cl : List (Str × Addr)) (fp : List Addr), DTs (X.blk s H scope (compEnvC scope cl C X.env) fp) ifs1 t1)
    (he : ∀ (s : Shared) (H : Hp) (C : Addr) (cl : List (Str × Addr)) (fp : List Addr), DE (X.blk s H scope (compEnvC scope cl C X.env) fp) W0 elt x) (hts : ∀ i ∈ ts, i ∈ own.map (·.2) := by decide) (hts1 : ∀ i ∈ ts1, i ∈ vs1 := by decide) (hv : ∀ i ∈ vs1, i ∈ own.map (·.2) := by decide) (hy : X.N[i]? = some y := by rfl) (hyl : X.env.scope.names.lookup y = some .local := by rfl)
    (hsw : swapsWith (.ListComp elt [⟨tg, iter, ifs, 0⟩, ⟨tg1, iter1, ifs1, 0⟩] scope pos) (some (.Name y py)) spos.line X.env = pure true := by rfl) (hB : ∀ p ∈ B, p.1 ≠ i := by simp) (hs : ∀ x, foldedSetIterable iter X.env x = pure x := by intro _; rfl) (hs1 : ∀ env x, foldedSetIterable iter1 env x = pure x := by intro _ _; rfl) :
    DS X B W (.Assign [.Name y py] (.ListComp elt [⟨tg, iter, ifs, 0⟩, ⟨tg1, iter1, ifs1, 0⟩] scope pos) spos) (sSet i (eComp2 (own.map (·.2)) vs1 it g t it1 g1 t1 x)) :=
  ⟨PSm (ps_setLc2 (vs1 := vs1) (g := TGd X.K ts g Y) (tt := TR X.K X.mg W0 RB t) (wi1 := fun σ H R => TR X.K X.mg W0 (fun S H ds fx (J : It) => fx = [] ∧ Wk X.K S H J ds Y1) it1 σ H R) (g1 := TGd X.K ts1 g1 Y1) (tt1 := TR X.K X.mg W0 RB t1) (te := TR X.K X.mg W0 (repV X.K) x) hc hN hy hyl hsw hi.p ok hv
    (fun s H C cl fp => (hg s H C cl fp).p) (fun s H C cl fp => (ht s H C cl fp).p) (fun s H C cl fp => (hi1 s H C cl fp).p) (fun s H C cl fp => (hg1 s H C cl fp).p) (fun s H C cl fp => (ht1 s H C cl fp).p) (fun s H C cl fp => (he s H C cl fp).p) hs hs1) fun D σ H h => comp2_tr hts hts1 hv (set_tr hB h)⟩
/-- (a, b, ..) = value -/
theorem ds_to {ts : List Nat} {tg : Expr} {g : D → En → Option En} (h1 : DE X W a m) (h2 : DG X ts tg g) (hs : swapsWithSole [tg] a pos.line X.env = pure false := by rfl) (hw : swappedStores [tg] a X.env = pure none := by rfl) (h3 : (assignEach [tg] X.env).map (·.2) = [assign tg X.env] := by rfl) (hB : ∀ p ∈ B, p.1 ∉ ts := by simp) :
    DS X B W (.Assign [tg] a pos) (sTo g m) := by
  refine ⟨PSm (ps_asg h1.p h2.p hs hw h3) fun D σ H ⟨S, e, fp, wd, bo, h⟩ => ⟨S, e, fp, wd, ?_⟩⟩
  unfold sTo at h
  cases hm : m e with
  | ok k e1 =>
    simp only [hm] at h
    intro S' H' fp' fx v x wd' sp r
    cases hd : k.d with
    | none => simp only [hd, Option.bind_none] at h; exact h.elim
    | some d =>
      simp only [hd, Option.bind_some] at h
      cases hg : g d e1 with
      | none => simp only [hg] at h; exact h.elim
      | some e2 =>
        simp only [hg] at h
        obtain ⟨ext1, wd1, rd⟩ := froze_wait x wd' sp hd r
        exact ⟨_, e1, fp', d, e2, wd1, rd, hg, fun σ' Sg Hg fp2 xg wd2 o2 => h Sg Hg fp2 σ' (ext1.trans xg) wd2 (bo.out o2 hB)⟩
  | ex _ _ => simp only [hm] at h; exact exW.of bo h
  | bad => simp only [hm] at h; exact h
/-! loops -/
theorem ds_for {ts : List Nat} {tg iter : Expr} {body : List Stmt} {it : M (List D)} {g : D → En → Option En} (hp : PassesOwn (model X.prog X.w) X.A X.env X.xe) (hc : X.calm = true) (hi : DI X W tg iter it Y) (hg : DG X ts tg g Y) (hb : DSs X B W body p) (hs : ∀ x, foldedSetIterable iter X.env x = pure x := by intro _; rfl) (hB : ∀ p ∈ B, p.1 ∉ ts := by simp) :
    DS X B W (.For tg iter body [] pos) (sFor it g p) := by
  refine ⟨PSm (ps_for hp hc hi.p hg.p hb.p hs) fun D σ H ⟨S, e, fp, wd, bo, h⟩ => ⟨S, e, fp, wd, ?_⟩⟩
  unfold sFor at h
  cases hm : it e with
  | ex _ _ => simp only [hm] at h; exact exW.of bo h
  | bad => simp only [hm] at h; exact h
  | ok l e1 =>
    simp only [hm] at h
    intro S1 H1 fp1 fx J ext wd1 sp rj
    obtain ⟨rfl, wk⟩ := rj
    refine ⟨fun i m σ' H' => m = l.length - i ∧ i ≤ l.length ∧ bOk B σ' ∧ ∃ S' fp' e', Ext S1 H1 fp1 S' H' fp' ∧ Wd X.K S' H' e' fp' σ' ∧ sPost X.K X.mg B W D S H fp (forGo g p (l.drop i) e'), ⟨l.length, by simp, Nat.zero_le _, bo, S1, fp1, e1, Ext.refl _ _ _, wd1, by simpa using h⟩, ?_⟩
    rintro i m σ' H' ⟨rfl, hi, bo', S', fp', e', ext', wd', h'⟩
    obtain ⟨wk1, wk2⟩ := wk S' H' (ext'.stb wd1.sep)
    have extA : Ext S H fp S' H' fp' := Ext.trans (fp1 := fp1) ext ext'
    by_cases hlt : i < l.length
    · have hd : l.drop i = l[i] :: l.drop (i + 1) := List.drop_eq_getElem_cons hlt
      obtain ⟨go, yl⟩ := wk1 i l[i] (by simp [hlt])
      let Nn : L2.St → Hp → Prop := fun σ2 H2 => bOk B σ2 ∧ ∃ S' fp' e', Ext S1 H1 fp1 S' H2 fp' ∧ Wd X.K S' H2 e' fp' σ2 ∧ sPost X.K X.mg B W D S H fp (forGo g p (l.drop (i + 1)) e')
      refine .inr ⟨go, Nn, fun σ2 H2 h2 => ⟨l.length - (i + 1), by omega, rfl, hlt, h2⟩, fun y H2 hy => ?_⟩
      obtain ⟨gr, ry⟩ := yl y H2 hy
      have ext2 : Ext S1 H1 fp1 S' H2 fp' := ext'.trans ((Ext.refl S' H' fp').grow (fz := []) gr (fun _ q => absurd q (by simp)))
      rw [hd] at h'
      unfold forGo at h'
      cases hgd : g l[i] e' with
      | none => simp only [hgd] at h'; exact h'.elim
      | some e2 =>
        simp only [hgd] at h'
        refine ⟨S', e', fp', l[i], e2, wd'.grow gr, ry, hgd, fun σ2 Sg Hg fp2 xg wd2 o2 => ⟨Sg, e2, fp2, wd2, bo'.out o2 hB, ?_⟩⟩
        have ext3 : Ext S1 H1 fp1 Sg Hg fp2 := ext2.trans xg
        have extB : Ext S H fp Sg Hg fp2 := Ext.trans (fp1 := fp1) ext ext3
        cases hp2 : p e2 with
        | nxt e3 => simp only [hp2] at h'; exact fun S4 H4 fp4 σ4 x4 wd4 bo4 => ⟨bo4, S4, fp4, e3, ext3.trans x4, wd4, h'⟩
        | cnt e3 => simp only [hp2] at h'; exact fun S4 H4 fp4 σ4 x4 wd4 bo4 => ⟨bo4, S4, fp4, e3, ext3.trans x4, wd4, h'⟩
        | brk e3 => simp only [hp2] at h'; exact goOn.more h' extB
        | ret _ _ => simp only [hp2] at h'; exact giveB.more h' extB
        | ex _ _ => simp only [hp2] at h'; exact exS.more h' extB
        | bad => simp only [hp2] at h'; exact h'.elim
    · have ei : i = l.length := by omega
      subst ei
      rw [List.drop_length] at h'
      unfold forGo at h'
      exact .inl ⟨wk2, h' S' H' fp' σ' extA wd' bo'⟩
theorem ds_while {t : M Bool} {body : List Stmt} (hp : PassesOwn (model X.prog X.w) X.A X.env X.xe) (ht : DT X W c t) (hb : DSs X B W body p) : DS X B W (.While c body [] pos) (sWhile t p) := by
  refine ⟨PSm (ps_while hp ht.p hb.p) fun D σ H ⟨S, e, fp, wd, bo, h⟩ => ?_⟩
  have hne : sWhile t p e ≠ .bad := fun z => by rw [z] at h; exact h
  obtain ⟨n, hn⟩ := sWhile_ex hne
  refine ⟨fun m σ' H' => bOk B σ' ∧ ∃ S' fp' e' o, Ext S H fp S' H' fp' ∧ Wd X.K S' H' e' fp' σ' ∧ whileGo t p m e' = some o ∧ sPost X.K X.mg B W D S H fp o, ⟨n, bo, S, fp, e, _, Ext.refl _ _ _, wd, hn, h⟩, ?_⟩
  rintro m σ' H' ⟨bo', S', fp', e', o, ext', wd', hg, h'⟩
  cases m with
  | zero => simp [whileGo] at hg
  | succ m =>
    refine ⟨S', e', fp', wd', ?_⟩
    unfold whileGo at hg
    cases hte : t e' with
    | bad => simp only [hte] at hg; cases hg; exact h'
    | ex _ _ => simp only [hte] at hg; cases hg; exact exW.of bo' (exS.more h' ext')
    | ok k e2 =>
      simp only [hte] at hg
      intro S2 H2 fp2 fx v x2 wd2 sp2 r
      obtain ⟨rfl, rfl⟩ := r
      have ext2 : Ext S H fp S2 H2 fp2 := Ext.trans (fp1 := fp') ext' x2
      cases v with
      | false =>
        dsimp only at hg
        cases hg
        rw [if_neg Bool.false_ne_true]
        exact h' S2 H2 fp2 σ' ext2 wd2 bo'
      | true =>
        dsimp only at hg
        rw [if_pos rfl]
        refine ⟨fun σ3 H3 => bOk B σ3 ∧ ∃ S' fp' e' o, Ext S H fp S' H3 fp' ∧ Wd X.K S' H3 e' fp' σ3 ∧ whileGo t p m e' = some o ∧ sPost X.K X.mg B W D S H fp o, fun σ3 H3 h3 => ⟨m, Nat.lt_succ_self m, h3⟩, S2, e2, fp2, wd2, bo', ?_⟩
        cases hp2 : p e2 with
        | nxt e3 => simp only [hp2] at hg; exact fun S4 H4 fp4 σ4 x4 wd4 bo4 => ⟨bo4, S4, fp4, e3, o, ext2.trans x4, wd4, hg, h'⟩
        | cnt e3 => simp only [hp2] at hg; exact fun S4 H4 fp4 σ4 x4 wd4 bo4 => ⟨bo4, S4, fp4, e3, o, ext2.trans x4, wd4, hg, h'⟩
        | brk e3 => simp only [hp2] at hg; cases hg; exact goOn.more h' ext2
        | ret _ _ => simp only [hp2] at hg; cases hg; exact giveB.more h' ext2
        | ex _ _ => simp only [hp2] at hg; cases hg; exact exS.more h' ext2
        | bad => simp only [hp2] at hg; cases hg; exact h'.elim
end
end Fx
end

section
set_option Elab.async false
set_option linter.all false
set_option maxRecDepth 100000
set_option maxHeartbeats 4000000
/-! Wk: lists of one's own changed; op=; pairs. -/
namespace Fx
open PySem PySem.Spec PyProof.Rows L2

theorem mid_ne {f1 f2 f3 : List Addr} {b a : Addr} (nd : (f1 ++ (f2 ++ f3)).Nodup) (hb : b ∈ f2) (ha : a ∈ f1 ++ f3) : a ≠ b := fun z => by
  subst z
  simp only [List.nodup_append, List.mem_append] at nd
  rcases List.mem_append.mp ha with ha | ha
  · exact nd.2.2 a ha a (.inl hb) rfl
  · exact nd.2.1.2.2 a hb a ha rfl
/-- a list of one's own at a name, and how it is written -/
theorem Wd.own {K : PySem.W.Frag} {S : SP'} {H : Hp} {e : En} {fp : List Addr} {σ : L2.St} {k : Nat} {l : List D} (wd : Wd K S H e fp σ) (he : e[k]? = some (some (.o l))) :
    ∃ a vs, σ[k]? = some (some (.ref a)) ∧ H a = some (.lst vs) ∧ reps K S H l vs ∧ ∀ l' vs', reps K S H l' vs' →
      Wd K S (upd H a (.lst vs')) (e.set k (some (.o l'))) fp σ ∧ Ext S H fp S (upd H a (.lst vs')) fp := by
  obtain ⟨v, f1, f2, f3, q1, q2, q3, q4⟩ := wd.env.at he
  obtain ⟨a, vs, e1, e2, e3, e4⟩ := q3
  subst e1 e2 q2
  have nS : ¬ S a := wd.sep.ns a (by simp)
  refine ⟨a, vs, q1, e3, e4, fun l' vs' r => ?_⟩
  have st : Stb S H S (upd H a (.lst vs')) := ⟨fun _ h => h, fun b o h q => by
    by_cases hb : b = a
    · subst hb; rw [e3] at h; cases h; exact absurd q nS
    · rw [upd_ne hb]; exact h⟩
  have env := q4 S (upd H a (.lst vs')) (some (.o l')) [a] (some (.ref a)) st (fun b hb => upd_ne (mid_ne wd.sep.nd (by simp) hb)) ⟨_, rfl, a, vs', rfl, rfl, upd_same, reps.stb st _ _ r⟩
  rw [set_same q1] at env
  refine ⟨⟨env, ⟨wd.sep.nd, wd.sep.ns, fun b hb => ?_⟩, fun b hb => ?_⟩, ⟨fun b o h hm => ?_, fun b hb => .inl hb, fun _ h => h, fun _ h => .inl h⟩⟩
  · by_cases z : b = a
    · subst z; exact ⟨_, upd_same, trivial⟩
    · rw [upd_ne z]; exact wd.sep.ow b hb
  · obtain ⟨xs, h⟩ := wd.dom b hb
    exact ⟨xs, by rw [upd_ne (show b ≠ a from fun z => by subst z; exact nS hb)]; exact h⟩
  · rw [upd_ne (show b ≠ a from fun z => by subst z; exact hm (by simp))]; exact h
section
variable {X : Cx} {W : WX} {a b c : Expr} {pos : Pos} {m n : M Vl}
theorem rep_non {K : PySem.W.Frag} {S : SP'} {H : Hp} : rep K S H .non .non := by unfold rep; rfl
theorem list_ty {K : PySem.W.Frag} {H : Hp} {p : Addr} {vs : List V} (h : H p = some (.lst vs)) : tyV K "list" (.ref p) H := .inl ⟨rfl, vs, .inl (.inl h)⟩
theorem de_app (k : Nat) {x : Str} {p apos : Pos} (ha : DE X W a m) (hN : X.N[k]? = some x := by rfl) (hv : Vis X.env.scope x := by first | exact Or.inl rfl | exact Or.inr (Or.inl rfl) | exact Or.inr (Or.inr rfl)) (hd : (x == ("__debug__" : Str)) = false := by decide)
    (hcd : (x == ("__classdict__" : Str)) = false := by decide) (he : starEach (a :: []) X.env = (false, eval a X.env) :: starEach [] X.env := by rfl) (hb : attributeBase (.Name x p) "append" X.env (eval (.Name x p) X.env) = eval (.Name x p) X.env := by rfl)
    (hfew : ((backTo pos (starEach (a :: []) X.env)).all (fun x => !x.1) && (backToKw pos (keywordEach [] X.env)).all (fun x => x.1.isSome) && decide (([a] : List Expr).length + ([] : List Keyword).length + (if ([] : List Keyword).isEmpty then 0 else 1) < 30)) = true := by rfl)
    (hline : (apos.endLine == pos.line) = true := by rfl) (hpl : (backTo pos (starEach [] X.env)).any (·.1) = false := by rfl) :
    DE X W (.Call (.Attribute (.Name x p) "append" apos) [a] [] pos) (mApp k m) := by
  refine ⟨PEm (pe_bm PySem.F.plainAttrs_list PySem.F.slot_list_append PySem.F.type_list_append mt_append (pe_var hN hv hd hcd) (pa_cons ha.p pa_nil he) hb hfew hline he hpl) fun σ H Q h => ?_⟩
  obtain ⟨S, e, fp, wd, p⟩ := h
  unfold mApp at p
  split at p
  · rename_i l0 he0
    obtain ⟨a0, vs0, h1, h2, h3, _⟩ := wd.own he0
    refine ⟨.ref a0, h1, list_ty h2, ?_⟩
    refine TR.bind (R' := repV X.K) (k := fun y e => (match y.d, e[k]? with
      | some d, some (some (.o l)) => if l.length < lim then .ok (.v .non) (e.set k (some (.o (l ++ [d])))) else .bad
      | _, _ => .bad)) (Q := Q) ⟨S, e, fp, wd, p⟩ fun S0 e0 fp0 S1 H1 e1 fp1 fy y w wd0 ext wd1 sep1 ry p1 => ?_
    split at p1
    · rename_i d l hy hk
      split at p1
      · rename_i hz
        obtain ⟨ext1, wd1', rd⟩ := froze_wait ext wd1 sep1 hy ry
        obtain ⟨a1, vs, g1, g2, g3, g4⟩ := wd1'.own hk
        rw [h1] at g1
        cases g1
        obtain ⟨wd2, ext2⟩ := g4 (l ++ [d]) (vs ++ [w]) (g3.app (reps.cons rd reps.nil))
        exact ⟨a0, vs, w, rfl, rfl, g2, by rw [← g3.length, ← lim_eq]; exact hz, p1 _ _ fp1 [] _ (ext1.trans ext2) wd2 wd2.sep ⟨rfl, rep_non⟩⟩
      · exact p1.elim
    · exact p1.elim
  · exact p.elim
theorem de_ext (k : Nat) {x : Str} {p apos : Pos} (ha : DE X W a m) (hN : X.N[k]? = some x := by rfl) (hv : Vis X.env.scope x := by first | exact Or.inl rfl | exact Or.inr (Or.inl rfl) | exact Or.inr (Or.inr rfl)) (hd : (x == ("__debug__" : Str)) = false := by decide)
    (hcd : (x == ("__classdict__" : Str)) = false := by decide) (he : starEach (a :: []) X.env = (false, eval a X.env) :: starEach [] X.env := by rfl) (hb : attributeBase (.Name x p) "extend" X.env (eval (.Name x p) X.env) = eval (.Name x p) X.env := by rfl)
    (hfew : ((backTo pos (starEach (a :: []) X.env)).all (fun x => !x.1) && (backToKw pos (keywordEach [] X.env)).all (fun x => x.1.isSome) && decide (([a] : List Expr).length + ([] : List Keyword).length + (if ([] : List Keyword).isEmpty then 0 else 1) < 30)) = true := by rfl)
    (hline : (apos.endLine == pos.line) = true := by rfl) (hpl : (backTo pos (starEach [] X.env)).any (·.1) = false := by rfl) :
    DE X W (.Call (.Attribute (.Name x p) "extend" apos) [a] [] pos) (mExt k m) := by
  refine ⟨PEm (pe_bm PySem.F.plainAttrs_list PySem.F.slot_list_extend PySem.F.type_list_extend mt_extend (pe_var hN hv hd hcd) (pa_cons ha.p pa_nil he) hb hfew hline he hpl) fun σ H Q h => ?_⟩
  obtain ⟨S, e, fp, wd, p⟩ := h
  unfold mExt at p
  split at p
  · rename_i l0 he0
    obtain ⟨a0, vs0, h1, h2, h3, _⟩ := wd.own he0
    refine ⟨.ref a0, h1, list_ty h2, ?_⟩
    refine TR.bind (R' := repV X.K) (k := fun y e => (match y, e[k]? with
      | .o r, some (some (.o l)) => if l.length + r.length ≤ lim then .ok (.v .non) (e.set k (some (.o (l ++ r)))) else .bad
      | _, _ => .bad)) (Q := Q) ⟨S, e, fp, wd, p⟩ fun S0 e0 fp0 S1 H1 e1 fp1 fy y w wd0 ext wd1 sep1 ry p1 => ?_
    split at p1
    · rename_i r l hk
      split at p1
      · rename_i hz
        obtain ⟨b0, ws, k1, k2, k3, k4⟩ := ry
        obtain ⟨a1, vs, g1, g2, g3, g4⟩ := wd1.own hk
        rw [h1] at g1
        cases g1
        obtain ⟨wd2, ext2⟩ := g4 (l ++ r) (vs ++ ws) (g3.app k4)
        exact ⟨a0, b0, vs, ws, rfl, by rw [k1], g2, k3, by rw [← g3.length, ← k4.length, ← lim_eq]; exact hz, p1 _ _ fp1 [] _ (ext.drop.trans ext2) wd2 wd2.sep ⟨rfl, rep_non⟩⟩
      · exact p1.elim
    · exact p1.elim
  · exact p.elim
theorem de_pop (k : Nat) {x : Str} {p apos : Pos} (ha : DE X W a m) (hN : X.N[k]? = some x := by rfl) (hv : Vis X.env.scope x := by first | exact Or.inl rfl | exact Or.inr (Or.inl rfl) | exact Or.inr (Or.inr rfl)) (hd : (x == ("__debug__" : Str)) = false := by decide)
    (hcd : (x == ("__classdict__" : Str)) = false := by decide) (he : starEach (a :: []) X.env = (false, eval a X.env) :: starEach [] X.env := by rfl) (hb : attributeBase (.Name x p) "pop" X.env (eval (.Name x p) X.env) = eval (.Name x p) X.env := by rfl)
    (hfew : ((backTo pos (starEach (a :: []) X.env)).all (fun x => !x.1) && (backToKw pos (keywordEach [] X.env)).all (fun x => x.1.isSome) && decide (([a] : List Expr).length + ([] : List Keyword).length + (if ([] : List Keyword).isEmpty then 0 else 1) < 30)) = true := by rfl)
    (hline : (apos.endLine == pos.line) = true := by rfl) (hpl : (backTo pos (starEach [] X.env)).any (·.1) = false := by rfl) :
    DE X W (.Call (.Attribute (.Name x p) "pop" apos) [a] [] pos) (mPop k m) := by
  refine ⟨PEm (pe_bm PySem.F.plainAttrs_list PySem.F.slot_list_pop PySem.F.type_list_pop mt_popAt (pe_var hN hv hd hcd) (pa_cons ha.p pa_nil he) hb hfew hline he hpl) fun σ H Q h => ?_⟩
  obtain ⟨S, e, fp, wd, p⟩ := h
  unfold mPop at p
  split at p
  · rename_i l0 he0
    obtain ⟨a0, vs0, h1, h2, h3, _⟩ := wd.own he0
    refine ⟨.ref a0, h1, list_ty h2, ?_⟩
    refine TR.bind (R' := repV X.K) (k := fun y e => (match y, e[k]? with
      | .v (.int i), some (some (.o l)) => if smallI i then (match Fx.ixN l.length i with
        | some j => (match l[j]? with
          | some d => .ok (.v d) (e.set k (some (.o (l.eraseIdx j))))
          | none => .bad)
        | none => .bad) else .bad
      | _, _ => .bad)) (Q := Q) ⟨S, e, fp, wd, p⟩ fun S0 e0 fp0 S1 H1 e1 fp1 fy y w wd0 ext wd1 sep1 ry p1 => ?_
    split at p1
    · rename_i i l hk
      split at p1
      · rename_i hsm
        split at p1
        · rename_i j hj
          split at p1
          · rename_i d hd
            obtain ⟨a1, vs, g1, g2, g3, g4⟩ := wd1.own hk
            rw [h1] at g1
            cases g1
            obtain ⟨u, k1, k2⟩ := g3.get hd
            obtain ⟨wd2, ext2⟩ := g4 (l.eraseIdx j) (vs.eraseIdx j) (g3.erase j)
            have hi := ry.2
            unfold rep at hi
            obtain ⟨hs1, hs2⟩ := small_of hsm
            have s1 := (ixN_seq (n := l.length) (i := i) (j := j) hj).1
            exact ⟨a0, vs, i, j, u, rfl, by rw [hi], g2, by omega, by omega, by rw [← g3.length]; exact s1, k1, p1 _ _ fp1 [] _ (ext.drop.trans ext2) wd2 wd2.sep ⟨rfl, rep.stb (ext2.stb wd1.sep) _ _ k2⟩⟩
          · exact p1.elim
        · exact p1.elim
      · exact p1.elim
    · exact p1.elim
  · exact p.elim
theorem reps.last {K : PySem.W.Frag} {S : SP'} {H : Hp} : ∀ {ds : List D} {vs : List V}, reps K S H ds vs → reps K S H ds.dropLast vs.dropLast := fun {ds vs} h => by
  rw [List.dropLast_eq_take, List.dropLast_eq_take, h.length]
  exact h.take _
theorem de_pop0 (k : Nat) {x : Str} {p apos : Pos} (hN : X.N[k]? = some x := by rfl) (hv : Vis X.env.scope x := by first | exact Or.inl rfl | exact Or.inr (Or.inl rfl) | exact Or.inr (Or.inr rfl)) (hd : (x == ("__debug__" : Str)) = false := by decide)
    (hcd : (x == ("__classdict__" : Str)) = false := by decide) (hb : attributeBase (.Name x p) "pop" X.env (eval (.Name x p) X.env) = eval (.Name x p) X.env := by rfl) (hline : (apos.endLine == pos.line) = true := by rfl) :
    DE X W (.Call (.Attribute (.Name x p) "pop" apos) [] [] pos) (mPop0 k) := by
  refine ⟨PEm (pe_bm0 PySem.F.plainAttrs_list PySem.F.slot_list_pop PySem.F.type_list_pop mt_pop (pe_var hN hv hd hcd) hb hline) fun σ H Q h => ?_⟩
  obtain ⟨S, e, fp, wd, p⟩ := h
  unfold mPop0 at p
  split at p
  · rename_i l he
    split at p
    · rename_i d hd
      obtain ⟨a0, vs, h1, h2, h3, h4⟩ := wd.own he
      obtain ⟨u, k1, k2⟩ := h3.get hd
      obtain ⟨wd2, ext2⟩ := h4 l.dropLast vs.dropLast h3.last
      exact ⟨.ref a0, h1, list_ty h2, a0, vs, u, rfl, rfl, h2, by rw [← h3.length]; exact k1, p _ _ fp [] _ ext2 wd2 wd2.sep ⟨rfl, rep.stb (ext2.stb wd.sep) _ _ k2⟩⟩
    · exact p.elim
  · exact p.elim

/-! ### x[i] = v, x[i][j] = v -/
theorem dg_ix (k : Nat) {x : Str} {p : Pos} {f : N} (ha : DN X a f) (hN : X.N[k]? = some x := by rfl) (hv : Vis X.env.scope x := by first | exact Or.inl rfl | exact Or.inr (Or.inl rfl) | exact Or.inr (Or.inr rfl)) (hd : (x == ("__debug__" : Str)) = false := by decide)
    (hcd : (x == ("__classdict__" : Str)) = false := by decide) (hasg : ∀ v, assign (.Subscript (.Name x p) a pos) X.env v = (do
      let ov ← holding [v] (eval (.Name x p) X.env)
      let iv ← holding [v, ov] (eval a X.env)
      standAt pos
      holding [v, ov, iv] (setItem ov iv v)
      release [v, ov, iv] []) := by intro _; rfl) : DG X [] (.Subscript (.Name x p) a pos) (gIx k f) := by
  refine ⟨PGm (pg_sub (pe_var hN hv hd hcd) ha.p set_list hasg) fun v σ H Q ⟨S, e, fp, d, e', wd, r, h, q⟩ => ?_⟩
  unfold gIx at h
  split at h
  · rename_i l i he hi
    cases hj : Fx.ixN l.length i with
    | none => rw [hj] at h; cases h
    | some j =>
      rw [hj] at h
      cases h
      obtain ⟨a0, vs, h1, h2, h3, h4⟩ := wd.own he
      obtain ⟨wd2, ext2⟩ := h4 (l.set j d) (vs.set j v) (h3.set j r)
      exact ⟨.ref a0, h1, S, e, fp, wd, i, hi, a0, vs, i, j, rfl, rfl, h2, by rw [← h3.length]; exact hj, q σ S _ fp ext2 wd2 (Out1.refl _ _)⟩
  · cases h
theorem rows.set {K : PySem.W.Frag} {S S' : SP'} {H H' : Hp} (st : Stb S H S' H') : ∀ {ls : List (List D)} {as : List Addr} {vs : List V} {i : Nat} {b : Addr} {r : List D} {ws : List V}, rows K S H ls as vs → as.Nodup → as[i]? = some b → (∀ a ∈ as, a ≠ b → H' a = H a) → H' b = some (.lst ws) → reps K S' H' r ws → rows K S' H' (ls.set i r) as vs
  | [], _, _, _, _, _, _, h, _, e, _, _, _ => by unfold rows at h; rw [h.1] at e; simp at e
  | l :: ls, _, _, 0, b, r, ws, h, nd, e, k, hb, hr => by
    unfold rows at h
    obtain ⟨b0, as, ws0, rs, h1, h2, h3, h4, h5⟩ := h
    subst h1 h2
    simp at e
    subst e
    simp only [List.set_cons_zero]
    unfold rows
    have nd' := List.nodup_cons.mp nd
    refine ⟨_, as, ws, rs, rfl, rfl, hb, hr, rows.stb st ls as rs (fun a q => k a (List.mem_cons_of_mem _ q) fun z => nd'.1 (z ▸ q)) h5⟩
  | l :: ls, _, _, i + 1, b, r, ws, h, nd, e, k, hb, hr => by
    unfold rows at h
    obtain ⟨b0, as, ws0, rs, h1, h2, h3, h4, h5⟩ := h
    subst h1 h2
    simp only [List.set_cons_succ]
    unfold rows
    have nd' := List.nodup_cons.mp nd
    have e' : as[i]? = some b := by simpa using e
    refine ⟨b0, as, ws0, rs, rfl, rfl, ?_, reps.stb st _ _ h4, rows.set st h5 nd'.2 e' (fun a q => k a (List.mem_cons_of_mem _ q)) hb hr⟩
    rw [k b0 List.mem_cons_self fun z => nd'.1 (z ▸ List.mem_of_getElem? e')]
    exact h3
theorem Wd.own2 {K : PySem.W.Frag} {S : SP'} {H : Hp} {e : En} {fp : List Addr} {σ : L2.St} {k : Nat} {l : List (List D)} {i : Nat} {r : List D} (wd : Wd K S H e fp σ) (he : e[k]? = some (some (.oo l))) (hi : l[i]? = some r) :
    ∃ a vs b ws, σ[k]? = some (some (.ref a)) ∧ H a = some (.lst vs) ∧ l.length = vs.length ∧ vs[i]? = some (.ref b) ∧ H b = some (.lst ws) ∧ reps K S H r ws ∧ ∀ r' ws', reps K S H r' ws' →
      Wd K S (upd H b (.lst ws')) (e.set k (some (.oo (l.set i r')))) fp σ ∧ Ext S H fp S (upd H b (.lst ws')) fp := by
  obtain ⟨v, f1, f2, f3, q1, q2, q3, q4⟩ := wd.env.at he
  obtain ⟨a, vs, as, e1, e2, e3, e4⟩ := q3
  subst e1 e2 q2
  obtain ⟨b, ws, g1, g2, g3, g4⟩ := e4.get hi
  have hbm : b ∈ a :: as := List.mem_cons_of_mem _ (List.mem_of_getElem? g1)
  have nS : ¬ S b := wd.sep.ns b (by simp only [List.mem_append]; exact .inr (.inl hbm))
  have ndA : (a :: as).Nodup := by
    have nd := wd.sep.nd
    simp only [List.nodup_append] at nd
    exact nd.2.1.1
  refine ⟨a, vs, b, ws, q1, e3, e4.length.1, g2, g3, g4, fun r' ws' hr => ?_⟩
  have st : Stb S H S (upd H b (.lst ws')) := ⟨fun _ h => h, fun c o h q => by
    by_cases hb : c = b
    · subst hb; rw [g3] at h; cases h; exact absurd q nS
    · rw [upd_ne hb]; exact h⟩
  have hab : a ≠ b := fun z => (List.nodup_cons.mp ndA).1 (z ▸ List.mem_of_getElem? g1)
  have rw' := rows.set st e4 (List.nodup_cons.mp ndA).2 g1 (fun c _ hc => upd_ne hc) upd_same (reps.stb st r' ws' hr)
  have env := q4 S (upd H b (.lst ws')) (some (.oo (l.set i r'))) (a :: as) (some (.ref a)) st (fun c hc => upd_ne (mid_ne wd.sep.nd hbm hc)) ⟨_, rfl, a, vs, as, rfl, rfl, by rw [upd_ne hab]; exact e3, rw'⟩
  rw [set_same q1] at env
  refine ⟨⟨env, ⟨wd.sep.nd, wd.sep.ns, fun c hc => ?_⟩, fun c hc => ?_⟩, ⟨fun c o h hm => ?_, fun c hc => .inl hc, fun _ h => h, fun _ h => .inl h⟩⟩
  · by_cases z : c = b
    · subst z; exact ⟨_, upd_same, trivial⟩
    · rw [upd_ne z]; exact wd.sep.ow c hc
  · obtain ⟨xs, h⟩ := wd.dom c hc
    exact ⟨xs, by rw [upd_ne (show c ≠ b from fun z => by subst z; exact nS hc)]; exact h⟩
  · rw [upd_ne (show c ≠ b from fun z => by subst z; exact hm (by simp only [List.mem_append]; exact .inr (.inl hbm)))]; exact h
theorem dg_ix2 (k : Nat) {x : Str} {p p1 : Pos} {f g : N} (ha : DN X a f) (hb : DN X b g) (hN : X.N[k]? = some x := by rfl) (hv : Vis X.env.scope x := by first | exact Or.inl rfl | exact Or.inr (Or.inl rfl) | exact Or.inr (Or.inr rfl)) (hd : (x == ("__debug__" : Str)) = false := by decide)
    (hcd : (x == ("__classdict__" : Str)) = false := by decide) (hs : PlainIx a := by exact fun _ _ => rfl) (hasg : ∀ v, assign (.Subscript (.Subscript (.Name x p) a p1) b pos) X.env v = (do
      let ov ← holding [v] (eval (.Subscript (.Name x p) a p1) X.env)
      let iv ← holding [v, ov] (eval b X.env)
      standAt pos
      holding [v, ov, iv] (setItem ov iv v)
      release [v, ov, iv] []) := by intro _; rfl) : DG X [] (.Subscript (.Subscript (.Name x p) a p1) b pos) (gIx2 k f g) := by
  refine ⟨PGm (pg_sub (pe_ix ix_seq' (pe_var hN hv hd hcd) ha.p hs) hb.p set_list hasg) fun v σ H Q ⟨S, e, fp, d, e', wd, r, h, q⟩ => ?_⟩
  unfold gIx2 at h
  split at h
  · rename_i l i j he hi hj
    cases h1 : Fx.ixN l.length i with
    | none => rw [h1] at h; cases h
    | some ii =>
      rw [h1, Option.bind_some] at h
      cases h2 : l[ii]? with
      | none => rw [h2] at h; cases h
      | some rr =>
        rw [h2, Option.bind_some] at h
        cases h3 : Fx.ixN rr.length j with
        | none => rw [h3] at h; cases h
        | some jj =>
          rw [h3] at h
          cases h
          obtain ⟨a0, vs, b0, ws, g1, g2, g3, g4, g5, g6, g7⟩ := wd.own2 he h2
          obtain ⟨wd2, ext2⟩ := g7 (rr.set jj d) (ws.set jj v) (g6.set jj r)
          refine ⟨.ref a0, g1, S, e, fp, wd, i, hi, .inl ⟨a0, vs, i, .ref b0, rfl, rfl, .inl (.inl g2), atI_of g3 h1 g4, S, e, fp, wd, j, hj, b0, ws, j, jj, rfl, rfl, g5, by rw [← g6.length]; exact h3, q σ S _ fp ext2 wd2 (Out1.refl _ _)⟩⟩
  · cases h

/-! ### op=, pairs -/
theorem ds_aug {B : List (Nat × Addr)} {i : Nat} {x : Str} {pos' : Pos} {op : Operator} {f : Int → Int → Int} (hN : X.N.Nodup) (ho : PIp X op (ipI f)) (h1 : DE X W a m) (hi : X.N[i]? = some x := by rfl) (hx : Loc X.env.scope x := by first | exact .inl rfl | exact .inr rfl) (hB : ∀ p ∈ B, p.1 ≠ i := by simp)
    (hf : X.fn x = true ∨ X.env.scope.names.lookup x = some .local := by first | exact .inl rfl | exact .inr rfl | assumption) : DS X B W (.AugAssign (.Name x pos') op a pos) (sAug i f m) := by
  refine ⟨PSm (ps_aug hN hi hx h1.p ho hf) fun D σ H ⟨S, e, fp, wd, bo, h⟩ => ?_⟩
  unfold sAug at h
  split at h
  · rename_i x0 he
    obtain ⟨v, fx, g1, g2, _⟩ := wd_at wd he
    have hv := g2.2
    unfold rep at hv
    subst hv
    refine ⟨_, g1, S, e, fp, wd, ?_⟩
    cases hm : m e with
    | bad => simp only [hm] at h; exact h
    | ex _ _ => simp only [hm] at h; exact exW.of bo h
    | ok y e1 =>
      simp only [hm] at h
      intro S' H' fp' fy w x' wd' sp r
      split at h
      · rename_i y0 e2 heq
        cases heq
        have hy := r.2
        unfold rep at hy
        subst hy
        have wd'' := wd'
        obtain ⟨fp2, wd2, sub2⟩ := wd'.put (fx := []) (i := i) (x := .v (.int (f x0 y0))) (v := .int (f x0 y0)) (by simpa using wd'.sep) ⟨rfl, rep_int _⟩
        exact ⟨x0, y0, rfl, rfl, h S' H' fp2 _ (x'.drop.sub (by simpa using sub2)) wd2 (bo.out (out_set _ _ _) fun p hp => by simpa using hB p hp)⟩
      · exact h.elim
      · rename_i heq; cases heq
      · rename_i heq; cases heq
  · exact h.elim
theorem ds_par {B : List (Nat × Addr)} {i j : Nat} {x y : Str} {r : M (List D)} {px py pt : Pos} {kt k2 pt2} (hc : X.calm = true) (hN : X.N.Nodup) (ha : DA X W [a, b] r) (hi : X.N[i]? = some x := by rfl) (hj : X.N[j]? = some y := by rfl) (hij : i ≠ j := by decide)
    (hx : X.env.scope.names.lookup x = some .local := by rfl) (hy : X.env.scope.names.lookup y = some .local := by rfl)
    (hw : swappedStores [.Tuple [.Name x px, .Name y py] kt pt] (.Tuple [a, b] k2 pt2) X.env = pure (some [x, y]) := by rfl)
    (hs : swapsWithSole [.Tuple [.Name x px, .Name y py] kt pt] (.Tuple [a, b] k2 pt2) pos.line X.env = pure false := by rfl) (hB : ∀ p ∈ B, p.1 ≠ i ∧ p.1 ≠ j := by simp) :
    DS X B W (.Assign [.Tuple [.Name x px, .Name y py] kt pt] (.Tuple [a, b] k2 pt2) pos) (sPar i j r) := by
  refine ⟨PSm (L2.ps_par hc hN hi hj hij hx hy ha.p hw hs) fun D σ H ⟨S, e, fp, wd, bo, h⟩ => ⟨S, e, fp, wd, ?_⟩⟩
  unfold sPar at h
  cases hm : r e with
  | bad => simp only [hm] at h; exact h
  | ex _ _ => simp only [hm] at h; exact exW.of bo h
  | ok l e1 =>
    simp only [hm] at h
    intro S' H' fp' fy vs x' wd' sp rl
    obtain ⟨rfl, rl⟩ := rl
    split at h
    · rename_i d1 d2 e2 heq
      cases heq
      unfold reps at rl
      obtain ⟨v1, q1, e0, r1, rl⟩ := rl
      unfold reps at rl
      obtain ⟨v2, q2, e0', r2, rl⟩ := rl
      unfold reps at rl
      subst e0 e0' rl
      obtain ⟨fp2, wd2, sub2⟩ := wd'.put (fx := []) (i := i) (x := .v d1) (by simpa using wd'.sep) ⟨rfl, r1⟩
      obtain ⟨fp3, wd3, sub3⟩ := wd2.put (fx := []) (i := j) (x := .v d2) (by simpa using wd2.sep) ⟨rfl, r2⟩
      refine ⟨v1, v2, rfl, h S' H' fp3 _ (x'.sub fun a q => ?_) wd3 ((bo.out (out_set _ _ _) fun p hp => by simpa using (hB p hp).1).out (out_set _ _ _) fun p hp => by simpa using (hB p hp).2)⟩
      have q1 := sub3 a q
      have q2 := sub2 a (by simpa using q1)
      simpa using q2
    · exact h.elim
    · rename_i heq; cases heq
    · rename_i heq; cases heq
theorem ds_par3 {B : List (Nat × Addr)} {i j l : Nat} {x y z : Str} {r : M (List D)} {px py pz pt : Pos} {kt k2 pt2} (hc : X.calm = true) (hN : X.N.Nodup) (ha : DA X W [a, b, c] r) (hi : X.N[i]? = some x := by rfl) (hj : X.N[j]? = some y := by rfl) (hl : X.N[l]? = some z := by rfl) (hij : i ≠ j := by decide) (hil : i ≠ l := by decide) (hjl : j ≠ l := by decide)
    (hx : X.env.scope.names.lookup x = some .local := by rfl) (hy : X.env.scope.names.lookup y = some .local := by rfl) (hz : X.env.scope.names.lookup z = some .local := by rfl)
    (hw : swappedStores [.Tuple [.Name x px, .Name y py, .Name z pz] kt pt] (.Tuple [a, b, c] k2 pt2) X.env = pure (some [x, y, z]) := by rfl)
    (hs : swapsWithSole [.Tuple [.Name x px, .Name y py, .Name z pz] kt pt] (.Tuple [a, b, c] k2 pt2) pos.line X.env = pure false := by rfl) (hB : ∀ p ∈ B, p.1 ≠ i ∧ p.1 ≠ j ∧ p.1 ≠ l := by simp) :
    DS X B W (.Assign [.Tuple [.Name x px, .Name y py, .Name z pz] kt pt] (.Tuple [a, b, c] k2 pt2) pos) (sPar3 i j l r) := by
  refine ⟨PSm (L2.ps_par3 hc hN hi hj hl hij hil hjl hx hy hz ha.p hw hs) fun D σ H ⟨S, e, fp, wd, bo, h⟩ => ⟨S, e, fp, wd, ?_⟩⟩
  unfold sPar3 at h
  cases hm : r e with
  | bad => simp only [hm] at h; exact h
  | ex _ _ => simp only [hm] at h; exact exW.of bo h
  | ok ll e1 =>
    simp only [hm] at h
    intro S' H' fp' fy vs x' wd' sp rl
    obtain ⟨rfl, rl⟩ := rl
    split at h
    · rename_i d1 d2 d3 e2 heq
      cases heq
      unfold reps at rl
      obtain ⟨v1, q1, e0, r1, rl⟩ := rl
      unfold reps at rl
      obtain ⟨v2, q2, e0', r2, rl⟩ := rl
      unfold reps at rl
      obtain ⟨v3, q3, e0'', r3, rl⟩ := rl
      unfold reps at rl
      subst e0 e0' e0'' rl
      obtain ⟨fp2, wd2, sub2⟩ := wd'.put (fx := []) (i := i) (x := .v d1) (by simpa using wd'.sep) ⟨rfl, r1⟩
      obtain ⟨fp3, wd3, sub3⟩ := wd2.put (fx := []) (i := j) (x := .v d2) (by simpa using wd2.sep) ⟨rfl, r2⟩
      obtain ⟨fp4, wd4, sub4⟩ := wd3.put (fx := []) (i := l) (x := .v d3) (by simpa using wd3.sep) ⟨rfl, r3⟩
      refine ⟨v1, v2, v3, rfl, h S' H' fp4 _ (x'.sub fun a q => ?_) wd4 (((bo.out (out_set _ _ _) fun p hp => by simpa using (hB p hp).1).out (out_set _ _ _) fun p hp => by simpa using (hB p hp).2.1).out (out_set _ _ _) fun p hp => by simpa using (hB p hp).2.2)⟩
      have q0 := sub4 a q
      have q1 := sub3 a (by simpa using q0)
      have q2 := sub2 a (by simpa using q1)
      simpa using q2
    · exact h.elim
    · rename_i heq; cases heq
    · rename_i heq; cases heq
end
end Fx
end

section
set_option Elab.async false
set_option linter.all false
set_option maxRecDepth 100000
set_option maxHeartbeats 4000000
/-! Wl: calls and defs. -/
namespace Fx
open PySem PySem.Spec PyProof.Rows L2

section
variable {K : PySem.W.Frag} {mg : Str → Option Value} {S S1 S2 : SP'} {H H1 H2 : Hp} {fp fp1 fx fl fr g g' : List Addr} {e : En} {σ : L2.St}
theorem Sep.perm (h : Sep S H g) (p : g.Perm g') : Sep S H g' := ⟨p.nodup_iff.mp h.nd, fun a q => h.ns a (p.mem_iff.mpr q), fun a q => h.ow a (p.mem_iff.mpr q)⟩
theorem Ext.perm (x : Ext S H fp S1 H1 g) (p : g.Perm g') : Ext S H fp S1 H1 g' := x.sub fun a q => p.mem_iff.mpr q
theorem envR.pad : ∀ {e : En} {fp : List Addr} {σ : L2.St} (k : Nat), envR K S H e fp σ → envR K S H (e ++ List.replicate k none) fp (σ ++ List.replicate k none)
  | [], _, _, 0, h => by simpa using h
  | [], fp, σ, k + 1, h => by
    unfold envR at h
    obtain ⟨rfl, rfl⟩ := h
    show envR K S H (none :: ([] ++ List.replicate k none)) [] (none :: ([] ++ List.replicate k none))
    unfold envR
    exact ⟨_, _, rfl, envR.pad k (by unfold envR; exact ⟨rfl, rfl⟩)⟩
  | none :: e, fp, σ, k, h => by
    unfold envR at h
    obtain ⟨s, r, h1, h2⟩ := h
    subst h1
    show envR K S H (none :: (e ++ _)) fp (s :: (r ++ _))
    unfold envR
    exact ⟨_, _, rfl, envR.pad k h2⟩
  | some y :: e, fp, σ, k, h => by
    unfold envR at h
    obtain ⟨v, r, f1, f2, h1, h2, h3, h4⟩ := h
    subst h1 h2
    show envR K S H (some y :: (e ++ _)) (f1 ++ f2) (some v :: (r ++ _))
    unfold envR
    exact ⟨_, _, f1, f2, rfl, rfl, h3, envR.pad k h4⟩
end

/-- what is promised of a def that computes F and changes what is lent at these places -/
def spF (K : PySem.W.Frag) (mg : Str → Option Value) (np : Nat) (lent : List Nat) (f : F) : Sp := fun vs H Q E =>
  vs.length = np ∧ (∀ p ∈ lent, ∃ a, vs[p]? = some (.ref a)) ∧ ∃ S xs fp, Wd K S H (xs.map some) fp (vs.map some) ∧
    (match f xs with
     | .ok x outs => ∀ S' H' fx fo v, Ext S H fp S' H' (fx ++ fo) → Wd K S' H' (outs.map some) fo (lent.map (vs[·]?)) → Sep S' H' (fx ++ fo) → repV K S' H' x fx v → Q v H'
     | .ex x => ∀ S' H' fo c dd, Ext S H fp S' H' fo → (∀ a, S' a → ∃ xs, H' a = some (.lst xs)) → exR K mg S' H' x c dd → E c dd H'
     | .bad => False)
/-- a def of the text that computes F -/
structure Fk (P : Program) (w : World) (K : PySem.W.Frag) (mg : Str → Option Value) (base : Heap) (k : Nat) (x : Str) (ps : List Str) (lent : List Nat) (f : F) : Prop where
  ex : ∃ a fd, FnOk P w K mg base (L2.CX P w) k a fd ps (spF K mg ps.length lent f) ∧ mg x = some (.ref a) ∧ PySem.W.keepIn K (.ref a) = true ∧ Binds K fd ps []
theorem Fk.mono {P : Program} {w : World} {K : PySem.W.Frag} {mg : Str → Option Value} {base : Heap} {j k : Nat} {x : Str} {ps : List Str} {lent : List Nat} {f : F} (h : Fk P w K mg base j x ps lent f) (l : j ≤ k) : Fk P w K mg base k x ps lent f := by
  obtain ⟨a, fd, h1, h2⟩ := h.ex
  exact ⟨a, fd, h1.mono l, h2⟩

/-! ### the body of a def -/
section
variable {P : Program} {w : World} {K : PySem.W.Frag} {mg : Str → Option Value} {base : Heap}
theorem outs_wd {S : SP'} {H : Hp} {e : En} {fp : List Addr} {σ : L2.St} {lent : List Nat} {os : List Vl} {vs : List V} {B : List (Nat × Addr)} (hl : lent.length ≤ 1) (hB : B.map (·.1) = lent) (hv : ∀ p ∈ B, vs[p.1]? = some (.ref p.2))
    (wd : Wd K S H e fp σ) (bo : bOk B σ) (h : outs lent e = some os) : ∃ fo, Wd K S H (os.map some) fo (lent.map (vs[·]?)) ∧ (∀ a ∈ fo, a ∈ fp) ∧ ∃ fr, fp.Perm (fo ++ fr) := by
  match lent, hl, B, hB with
  | [], _, _, _ =>
    simp only [outs, Option.some.injEq] at h
    subst h
    exact ⟨[], ⟨⟨rfl, rfl⟩, Sep.nil, wd.dom⟩, by simp, fp, List.Perm.refl _⟩
  | [i], _, [(i', a)], hB =>
    simp at hB
    subst hB
    unfold outs at h
    split at h
    · rename_i x hx
      simp only [outs, Option.map_some, Option.some.injEq] at h
      subst h
      obtain ⟨v, f1, f2, f3, q1, q2, q3, q4⟩ := wd.env.at hx
      have b1 := bo (i', a) (by simp)
      rw [q1] at b1
      simp only [Option.some.injEq] at b1
      subst b1 q2
      have pm : (f1 ++ (f2 ++ f3)).Perm (f2 ++ (f1 ++ f3)) := by
        rw [← List.append_assoc, ← List.append_assoc]
        exact List.perm_append_comm.append_right f3
      refine ⟨f2, ⟨?_, (wd.sep.perm pm).app1, wd.dom⟩, fun a q => by simp [q], f1 ++ f3, pm⟩
      have hv1 := hv (i', a) (by simp)
      simp only [List.map_cons, List.map_nil]
      show envR K S H [some x] f2 [vs[i']?]
      rw [hv1]
      unfold envR
      exact ⟨_, [], f2, [], rfl, by simp, q3, by unfold envR; exact ⟨rfl, rfl⟩⟩
    · cases h
theorem outs_len {e : En} : ∀ {lent : List Nat} {os : List Vl}, outs lent e = some os → True := fun _ => trivial
theorem body_sp {N : List Str} {lent : List Nat} {np : Nat} {c : C} {vs : List V} {H : Hp} {Q : VK} {E : XK} (hl : lent.length ≤ 1) (h : spF K mg np lent (runDef N.length lent c) vs H Q E) :
    ∃ B : List (Nat × Addr), B.map (·.1) = lent ∧ TSx K mg B (fun cls d _ H => E cls d H) c { nx := fun _ H' => Q .non H', rt := Q } (start N vs) H := by
  obtain ⟨h1, h2, S, xs, fp, wd, h⟩ := h
  have hB : ∃ B : List (Nat × Addr), B.map (·.1) = lent ∧ ∀ p ∈ B, vs[p.1]? = some (.ref p.2) := by
    match lent, hl with
    | [], _ => exact ⟨[], rfl, by simp⟩
    | [p], _ =>
      obtain ⟨a, ha⟩ := h2 p (by simp)
      exact ⟨[(p, a)], rfl, by simpa using ha⟩
  obtain ⟨B, e1, e2⟩ := hB
  have lx : xs.length = vs.length := by simpa using wd.env.len
  refine ⟨B, e1, S, _, fp, ⟨wd.env.pad (N.length - vs.length), wd.sep, wd.dom⟩, fun p hp => ?_, ?_⟩
  · have hv := e2 p hp
    show (vs.map some ++ List.replicate (N.length - vs.length) none)[p.1]? = _
    have lt : p.1 < vs.length := by
      rcases Nat.lt_or_ge p.1 vs.length with q | q
      · exact q
      · rw [List.getElem?_eq_none q] at hv; cases hv
    rw [List.getElem?_append_left (by simpa using lt), List.getElem?_map, hv]
    rfl
  · unfold runDef at h
    rw [lx] at h
    unfold sPost
    cases hc : c (xs.map some ++ List.replicate (N.length - vs.length) none) with
    | nxt e =>
      simp only [hc] at h
      intro S' H' fp' σ' ext wd' bo
      cases ho : outs lent e with
      | none => simp only [ho] at h
      | some os =>
        simp only [ho] at h
        obtain ⟨fo, w1, w2, _⟩ := outs_wd hl e1 e2 wd' bo ho
        exact h S' H' [] fo .non (ext.sub w2) w1 w1.sep ⟨rfl, rep_non⟩
    | ret x e =>
      simp only [hc] at h
      intro S' H' fp' fx σ' v ext wd' sep bo r
      cases ho : outs lent e with
      | none => simp only [ho] at h
      | some os =>
        simp only [ho] at h
        obtain ⟨fo, w1, w2, fr, pm⟩ := outs_wd hl e1 e2 wd' bo ho
        have pm2 : (fx ++ fp').Perm ((fx ++ fo) ++ fr) := by
          rw [List.append_assoc]
          exact pm.append_left fx
        exact h S' H' fx fo v (ext.sub fun a q => pm2.mem_iff.mpr (List.mem_append_left _ q)) w1 (sep.perm pm2).app1 r
    | brk e => simp only [hc] at h
    | cnt e => simp only [hc] at h
    | bad => simp only [hc] at h
    | ex x e =>
      simp only [hc] at h
      exact fun S' H' fp' σ' cc dd ext wd' _ r => h S' H' fp' cc dd ext wd'.dom r
theorem fk_def {x qual : Str} {st : Stmt} {f : Addr} {fd : FuncData} {N ps : List Str} {k : Nat} {lent : List Nat} {c : C} (Fn : Fun K x qual st f fd) (sc : FnScope N ps (defScope st)) (bn : Binds K fd ps []) (gm : mg x = some (.ref f)) (hl : lent.length ≤ 1)
    (hb : ∀ (cdv : Value) (A : Around) (outer : List Env) (s : Shared) (H : Hp) (E : XK), Room k (A.deeper (envOfC qual (defScope st) s.heap.objs.size f cdv)) → ∀ B : List (Nat × Addr), B.map (·.1) = lent → DSs (cxOf (L2.CX P w) P w K mg base N qual (defScope st) f cdv A outer s H E) B (fun cls d _ H => E cls d H) (defBody st) c) :
    Fk P w K mg base (k + 1) x ps lent (runDef N.length lent c) := by
  refine ⟨f, fd, Fn.okX sc (fun vs H Q E h => h.1) (fun cdv A outer s H vs Q E hr h => ?_), gm, Fn.kp, bn⟩
  obtain ⟨B, h1, h2⟩ := body_sp hl h
  exact ⟨_, (hb cdv A outer s H E hr B h1).p, h2⟩
end

/-! ### a call -/
/-- how the arguments lie -/
def argR (K : PySem.W.Frag) (S : SP') (H : Hp) (e : En) (σ : L2.St) : List Ar → List Vl → List V → Prop
  | [], l, vs => l = [] ∧ vs = []
  | .va _ :: r, l, vs => ∃ d l' v vs', l = .v d :: l' ∧ vs = v :: vs' ∧ rep K S H d v ∧ argR K S H e σ r l' vs'
  | .lent i :: r, l, vs => ∃ x l' v vs', l = x :: l' ∧ vs = v :: vs' ∧ x.own = true ∧ σ[i]? = some (some v) ∧ e[i]? = some (some x) ∧ argR K S H e σ r l' vs'
def TAr (K : PySem.W.Frag) (mg : Str → Option Value) (W : WX) (as : List Ar) : L2.St → Hp → (List V → Hp → Prop) → Prop := fun σ H Q =>
  ∃ S e fp, Wd K S H e fp σ ∧ (args as e).post (fun l e' => ∀ S' H' fp' vs, Ext S H fp S' H' fp' → Wd K S' H' e' fp' σ → argR K S' H' e' σ as l vs → Q vs H') (fun x e' => exW K mg W S H fp σ x e')
structure DAr (X : Cx) (W : WX) (es : List Expr) (as : List Ar) : Prop where
  p : PA X es (TAr X.K X.mg W as)
section
variable {X : Cx} {W : WX} {a b c : Expr} {pos : Pos} {m n : M Vl}
theorem dr_nil : DAr X W [] [] := ⟨PAm pa_nil fun σ H Q ⟨S, e, fp, wd, p⟩ => p S H fp [] (Ext.refl S H fp) wd ⟨rfl, rfl⟩⟩
theorem dr_va {es : List Expr} {r : List Ar} (ha : DE X W a m) (hr : DAr X W es r) (hs : starEach (a :: es) X.env = (false, eval a X.env) :: starEach es X.env := by rfl) : DAr X W (a :: es) (.va m :: r) := by
  refine ⟨PAm (pa_cons ha.p hr.p hs) fun σ H Q ⟨S, e, fp, wd, p⟩ => ⟨S, e, fp, wd, ?_⟩⟩
  unfold args at p
  cases hm : m e with
  | bad => simp only [hm, Rs.then] at p; exact p
  | ex x e1 => simp only [hm, Rs.then] at p; exact p
  | ok x e1 =>
    simp only [hm, Rs.then] at p
    intro S1 H1 fp1 fx v ext wd1 sep1 rx
    cases hx : x.d with
    | none => simp only [hx] at p; exact p.elim
    | some d =>
      simp only [hx] at p
      obtain ⟨ext1, wd1', rd⟩ := froze_wait ext wd1 sep1 hx rx
      refine ⟨_, e1, fp1, wd1', ?_⟩
      cases hr : args r e1 with
      | bad => simp only [hr] at p; exact p
      | ex y e2 => simp only [hr] at p; exact exW.more p ext1
      | ok l e2 =>
        simp only [hr] at p
        exact fun S2 H2 fp2 vs ext2 wd2 rr => p S2 H2 fp2 (v :: vs) (ext1.trans ext2) wd2 ⟨d, l, v, vs, rfl, rfl, rep.stb (ext2.stb wd1'.sep) d v rd, rr⟩
theorem dr_lent (k : Nat) {x : Str} {p : Pos} {es : List Expr} {r : List Ar} (hr : DAr X W es r) (hN : X.N[k]? = some x := by rfl) (hv : Vis X.env.scope x := by first | exact Or.inl rfl | exact Or.inr (Or.inl rfl) | exact Or.inr (Or.inr rfl)) (hd : (x == ("__debug__" : Str)) = false := by decide)
    (hcd : (x == ("__classdict__" : Str)) = false := by decide) (hs : starEach (.Name x p :: es) X.env = (false, eval (.Name x p) X.env) :: starEach es X.env := by rfl) : DAr X W (.Name x p :: es) (.lent k :: r) := by
  refine ⟨PAm (pa_cons (pe_var hN hv hd hcd) hr.p hs) fun σ H Q ⟨S, e, fp, wd, p⟩ => ?_⟩
  unfold args at p
  split at p
  · rename_i y hy
    obtain ⟨v, _, _, _, q1, _, _, _⟩ := wd.env.at hy
    refine ⟨v, q1, S, e, fp, wd, ?_⟩
    cases hr : args r e with
    | bad => simp only [hr, Rs.then] at p; exact p
    | ex y e2 => simp only [hr, Rs.then] at p; exact p
    | ok l e2 =>
      simp only [hr, Rs.then] at p
      intro S2 H2 fp2 vs ext2 wd2 rr
      split at p
      · rename_i z hz
        split at p
        · rename_i ow
          exact p S2 H2 fp2 (v :: vs) ext2 wd2 ⟨z, l, v, vs, rfl, rfl, ow, q1, hz, rr⟩
        · exact p.elim
      · exact p.elim
  · exact p.elim
theorem lentP_nil : ∀ {as : List Ar}, lentP as = [] → ∀ {S : SP'} {H : Hp} {e : En} {σ : L2.St} {l : List Vl} {vs : List V} {K : PySem.W.Frag}, argR K S H e σ as l vs → envR K S H (l.map some) [] (vs.map some)
  | [], _, _, _, _, _, _, _, _, h => by obtain ⟨rfl, rfl⟩ := h; exact ⟨rfl, rfl⟩
  | .va _ :: r, hp, _, _, _, _, _, _, _, h => by
    obtain ⟨d, l', v, vs', rfl, rfl, h1, h2⟩ := h
    simp only [lentP, List.map_eq_nil_iff] at hp
    simp only [List.map_cons]
    unfold envR
    exact ⟨_, _, [], [], rfl, rfl, ⟨rfl, h1⟩, lentP_nil hp h2⟩
  | .lent _ :: _, hp, _, _, _, _, _, _, _, _ => by simp [lentP] at hp
theorem puts_nil : ∀ {as : List Ar} {e : En}, lentP as = [] → puts as [] e = some e
  | [], _, _ => rfl
  | .va _ :: r, e, hp => by
    simp only [lentP, List.map_eq_nil_iff] at hp
    exact puts_nil (as := r) hp
  | .lent _ :: _, _, hp => by simp [lentP] at hp
theorem kill_nil : ∀ {as : List Ar} {e : En}, lentP as = [] → kill as e = e
  | [], _, _ => rfl
  | .va _ :: r, e, hp => by
    simp only [lentP, List.map_eq_nil_iff] at hp
    exact kill_nil (as := r) hp
  | .lent _ :: _, _, hp => by simp [lentP] at hp
theorem map_one {α β : Type} {f : α → β} {l : List α} {b : β} (h : l.map f = [b]) : ∃ a, l = [a] ∧ f a = b := by
  match l, h with
  | [a], h => exact ⟨a, rfl, by simpa using h⟩
theorem lentP_one : ∀ {as : List Ar} {p i : Nat}, lentP as = [(p, i)] → ∀ {S : SP'} {H : Hp} {e : En} {σ : L2.St} {l : List Vl} {vs : List V} {K : PySem.W.Frag}, argR K S H e σ as l vs →
    ∃ x v, x.own = true ∧ σ[i]? = some (some v) ∧ e[i]? = some (some x) ∧ vs[p]? = some v ∧ ∀ f, repV K S H x f v → envR K S H (l.map some) f (vs.map some)
  | [], _, _, hp, _, _, _, _, _, _, _, _ => by simp [lentP] at hp
  | .va _ :: r, p, i, hp, _, _, _, _, _, _, _, h => by
    obtain ⟨d, l', v, vs', rfl, rfl, h1, h2⟩ := h
    unfold lentP at hp
    obtain ⟨⟨p', i'⟩, e1, e2⟩ := map_one hp
    simp only [Prod.mk.injEq] at e2
    obtain ⟨rfl, rfl⟩ := e2
    obtain ⟨x, u, g1, g2, g3, g4, g5⟩ := lentP_one e1 h2
    refine ⟨x, u, g1, g2, g3, by simpa using g4, fun f hf => ?_⟩
    simp only [List.map_cons]
    unfold envR
    exact ⟨_, _, [], f, rfl, rfl, ⟨rfl, h1⟩, g5 f hf⟩
  | .lent j :: r, p, i, hp, _, _, _, _, _, _, _, h => by
    obtain ⟨x, l', v, vs', rfl, rfl, h0, h1, h2, h3⟩ := h
    simp only [lentP, List.cons.injEq, List.map_eq_nil_iff, Prod.mk.injEq] at hp
    obtain ⟨⟨rfl, rfl⟩, hp⟩ := hp
    refine ⟨x, v, h0, h1, h2, rfl, fun f hf => ?_⟩
    simp only [List.map_cons]
    unfold envR
    exact ⟨_, _, f, [], rfl, by simp, hf, lentP_nil hp h3⟩
theorem puts_one : ∀ {as : List Ar} {p i : Nat} {e : En} {x : Vl}, lentP as = [(p, i)] → puts as [x] e = some (e.set i (some x))
  | [], _, _, _, _, hp => by simp [lentP] at hp
  | .va _ :: r, p, i, e, x, hp => by
    unfold lentP at hp
    obtain ⟨⟨p', i'⟩, e1, e2⟩ := map_one hp
    simp only [Prod.mk.injEq] at e2
    obtain ⟨rfl, rfl⟩ := e2
    exact puts_one (as := r) e1
  | .lent j :: r, p, i, e, x, hp => by
    simp only [lentP, List.cons.injEq, List.map_eq_nil_iff, Prod.mk.injEq] at hp
    obtain ⟨⟨rfl, rfl⟩, hp⟩ := hp
    exact puts_nil (as := r) hp
theorem kill_one : ∀ {as : List Ar} {p i : Nat} {e : En}, lentP as = [(p, i)] → kill as e = e.set i none
  | [], _, _, _, hp => by simp [lentP] at hp
  | .va _ :: r, p, i, e, hp => by
    unfold lentP at hp
    obtain ⟨⟨p', i'⟩, e1, e2⟩ := map_one hp
    simp only [Prod.mk.injEq] at e2
    obtain ⟨rfl, rfl⟩ := e2
    exact kill_one (as := r) e1
  | .lent j :: r, p, i, e, hp => by
    simp only [lentP, List.cons.injEq, List.map_eq_nil_iff, Prod.mk.injEq] at hp
    obtain ⟨⟨rfl, rfl⟩, hp⟩ := hp
    exact kill_nil (as := r) hp
theorem own_ref {K : PySem.W.Frag} {S : SP'} {H : Hp} {x : Vl} {f : List Addr} {v : V} (h : x.own = true) (r : repV K S H x f v) : ∃ a, v = .ref a := by
  cases x with
  | v d => cases h
  | o l => obtain ⟨a, _, e, _⟩ := r; exact ⟨a, e⟩
  | oo l => obtain ⟨a, _, _, e, _⟩ := r; exact ⟨a, e⟩
  | dc _ => exact r.elim
  | rg _ _ => cases h
theorem call_tr {as : List Ar} {f : F} {lent : List Nat} {np : Nat} (hl : (lentP as).map (·.1) = lent) (n1 : lent.length ≤ 1) (hn : as.length = np) {σ : L2.St} {H : Hp} {Q : VK} (h : TR X.K X.mg W (repV X.K) (eCall f as) σ H Q) :
    TAr X.K X.mg W as σ H fun vs H1 => spF X.K X.mg np lent f vs H1 Q (fun cls d H => W cls d σ H) := by
  obtain ⟨S, e, fp, wd, p⟩ := h
  refine ⟨S, e, fp, wd, ?_⟩
  unfold eCall at p
  cases ha : args as e with
  | bad => simp only [ha, Rs.then] at p; exact p
  | ex x e1 => simp only [ha, Rs.then] at p; exact p
  | ok l e1 =>
    simp only [ha, Rs.then] at p
    intro S1 H1 fp1 vs ext wd1 rr
    have hlen : ∀ {as : List Ar} {l : List Vl} {vs : List V}, argR X.K S1 H1 e1 σ as l vs → vs.length = as.length := by
      intro as
      induction as with
      | nil => intro l vs h; obtain ⟨_, rfl⟩ := h; rfl
      | cons a r ih =>
        intro l vs h
        cases a with
        | va m => obtain ⟨d, l', v, vs', rfl, rfl, _, h2⟩ := h; simp [ih h2]
        | lent i => obtain ⟨d, l', v, vs', rfl, rfl, _, _, _, h2⟩ := h; simp [ih h2]
    refine ⟨(hlen rr).trans hn, ?_⟩
    match hp : lentP as, lent, hl, n1 with
    | [], [], _, _ =>
      refine ⟨by simp, S1, l, [], ⟨lentP_nil hp rr, Sep.nil, wd1.dom⟩, ?_⟩
      cases hf : f l with
      | bad => simp only [hf] at p; exact p.elim
      | ok x outs =>
        simp only [hf] at p
        intro S2 H2 fx fo v ext2 wd2 sep2 rx
        have w2 := wd2.env
        cases outs with
        | cons y ys => simp only [List.map_cons, List.map_nil] at w2; unfold envR at w2; obtain ⟨_, _, _, _, z, _⟩ := w2; cases z
        | nil =>
          obtain ⟨rfl, _⟩ := w2
          rw [puts_nil hp] at p
          simp only [List.append_nil] at ext2 sep2
          obtain ⟨s1, s2⟩ := Sep.wait (fx := fp1) (fp1 := []) (by simpa using wd1.sep) ext2 sep2
          have ext3 := Ext.wait (fx := fp1) (fp1 := []) (by simpa using ext) ext2
          exact p S2 H2 fp1 fx v (ext3.perm List.perm_append_comm) ⟨envR.stb (ext2.stb Sep.nil) _ _ _ s2 wd1.env, s1.app1, wd2.dom⟩ (s1.perm List.perm_append_comm) rx
      | ex x =>
        simp only [hf] at p
        intro S2 H2 fo c dd ext2 dom2 rx
        rw [kill_nil hp] at p
        have ext2' : Ext S1 H1 [] S2 H2 [] := ext2.sub (by simp)
        obtain ⟨s1, s2⟩ := Sep.wait (fx := fp1) (fp1 := []) (by simpa using wd1.sep) ext2' Sep.nil
        have ext3 := Ext.wait (fx := fp1) (fp1 := []) (by simpa using ext) ext2'
        exact p S2 H2 fp1 c dd (by simpa using ext3) ⟨envR.stb (ext2.stb Sep.nil) _ _ _ s2 wd1.env, s1.app1, dom2⟩ rx
    | [(pp, i)], [q], hl, _ =>
      simp only [List.map_cons, List.map_nil, List.cons.injEq, and_true] at hl
      subst hl
      obtain ⟨x0, v0, g1, g2, g3, g4, g5⟩ := lentP_one hp rr
      obtain ⟨v, f1, f2, f3, q1, q2, q3, q4⟩ := wd1.env.at g3
      rw [g2] at q1
      simp only [Option.some.injEq] at q1
      subst q1 q2
      have pm : (f1 ++ (f2 ++ f3)).Perm ((f1 ++ f3) ++ f2) := by
        rw [List.append_assoc]
        exact List.perm_append_comm.append_left f1
      have sp1 : Sep S1 H1 ((f1 ++ f3) ++ f2) := wd1.sep.perm pm
      have ex1 : Ext S H fp S1 H1 ((f1 ++ f3) ++ f2) := ext.perm pm
      refine ⟨fun p hp => ?_, S1, l, f2, ⟨g5 f2 q3, sp1.app2, wd1.dom⟩, ?_⟩
      · simp only [List.mem_singleton] at hp
        subst hp
        obtain ⟨a, ea⟩ := own_ref g1 q3
        exact ⟨a, by rw [g4, ea]⟩
      cases hf : f l with
      | bad => simp only [hf] at p; exact p.elim
      | ok x outs =>
        simp only [hf] at p
        intro S2 H2 fx fo v ext2 wd2 sep2 rx
        have w2 := wd2.env
        simp only [List.map_cons, List.map_nil] at w2
        rw [g4] at w2
        match outs, w2 with
        | [], w2 => simp only [List.map_nil] at w2; unfold envR at w2; cases w2.2
        | [y], w2 =>
          simp only [List.map_cons, List.map_nil] at w2
          unfold envR at w2
          obtain ⟨v', r', h1, h2, e1', e2', r1, r2⟩ := w2
          simp only [List.cons.injEq, Option.some.injEq] at e1'
          obtain ⟨rfl, rfl⟩ := e1'
          unfold envR at r2
          obtain ⟨rfl, _⟩ := r2
          rw [List.append_nil] at e2'
          subst e2'
          rw [puts_one hp] at p
          obtain ⟨s1, s2⟩ := Sep.wait sp1 ext2 sep2
          have ext3 := Ext.wait ex1 ext2
          have pm2 : ((f1 ++ f3) ++ (fx ++ fo)).Perm (fx ++ (f1 ++ (fo ++ f3))) := by
            rw [← List.append_assoc (f1 ++ f3)]
            have e1 : ((f1 ++ f3) ++ fx).Perm (fx ++ (f1 ++ f3)) := List.perm_append_comm
            refine (e1.append_right fo).trans ?_
            rw [List.append_assoc, List.append_assoc]
            exact (List.perm_append_comm.append_left f1).append_left fx
          have env2 := q4 S2 H2 (some y) fo (some v0) (ext2.stb sp1.app2) s2 ⟨v0, rfl, r1⟩
          rw [set_same g2] at env2
          exact p S2 H2 _ fx v (ext3.perm pm2) ⟨env2, (s1.perm pm2).app2, wd2.dom⟩ (s1.perm pm2) rx
        | y :: z :: ys, w2 =>
          simp only [List.map_cons] at w2
          unfold envR at w2
          obtain ⟨v', r', h1, h2, e1', e2', r1, r2⟩ := w2
          simp only [List.cons.injEq] at e1'
          obtain ⟨_, rfl⟩ := e1'
          unfold envR at r2
          obtain ⟨_, _, _, _, z', _⟩ := r2
          cases z'
      | ex x =>
        simp only [hf] at p
        intro S2 H2 fo c dd ext2 dom2 rx
        rw [kill_one hp] at p
        have ext2' : Ext S1 H1 f2 S2 H2 [] := ext2.sub (by simp)
        obtain ⟨s1, s2⟩ := Sep.wait sp1 ext2' Sep.nil
        have ext3 := Ext.wait ex1 ext2'
        have env2 := q4 S2 H2 none [] (some v0) (ext2.stb sp1.app2) s2 rfl
        rw [set_same g2] at env2
        simp only [List.append_nil] at ext3 s1
        exact p S2 H2 (f1 ++ f3) c dd ext3 ⟨by simpa using env2, s1, dom2⟩ rx
theorem de_call {as : List Ar} {f : F} {lent : List Nat} {k : Nat} {x : Str} {ps : List Str} {es : List Expr} {p : Pos} (F : Fk X.prog X.w X.K X.mg X.base k x ps lent f) (hr : Room k X.A) (tk : Takes X W) (ha : DAr X W (a :: es) as) (hg : Gl X x := by rfl) (hl : (lentP as).map (·.1) = lent := by rfl) (n1 : lent.length ≤ 1 := by decide) (hn : as.length = ps.length := by rfl)
    (hdb : (x == ("__debug__" : Str)) = false := by decide) (he : starEach (a :: es) X.env = (false, eval a X.env) :: starEach es X.env := by rfl) (hpl : (backTo pos (starEach es X.env)).any (·.1) = false := by rfl) : DE X W (.Call (.Name x p) (a :: es) [] pos) (eCall f as) := by
  obtain ⟨fa, fd, h1, h2, h3, h4⟩ := F.ex
  exact ⟨PEm (pe_callS h1 hr hg h2 h3 h4 (fun σ => passAt tk σ) ha.p hdb he hpl) fun σ H Q h => call_tr hl n1 hn h⟩
end
end Fx
end

section
set_option Elab.async false
set_option linter.all false
set_option maxRecDepth 100000
set_option maxHeartbeats 4000000
/-! Wx: own errors: made (own __init__ that asks super's first), raised, caught, their fields. -/
namespace Fx
open PySem PySem.Spec PyProof.Rows L2 PySem.W PySem.Calls PySem.HandSPX

def xA : Arguments := { posonlyargs := [], args := [{ arg := "self", annotation := none, pos := ⟨4, 17, 4, 21⟩ }, { arg := "code", annotation := none, pos := ⟨4, 23, 4, 27⟩ }], vararg := none, kwonlyargs := [], kw_defaults := [], kwarg := none, defaults := [] }
def xB : List Stmt := [.Expr (.Call (.Attribute (.Call (.Name "super" ⟨5, 8, 5, 13⟩) [] [] ⟨5, 8, 5, 15⟩) "__init__" ⟨5, 8, 5, 24⟩) [.Name "code" ⟨5, 25, 5, 29⟩] [] ⟨5, 8, 5, 30⟩) ⟨5, 8, 5, 30⟩,
  .Assign [.Attribute (.Name "self" ⟨6, 8, 6, 12⟩) "code" ⟨6, 8, 6, 17⟩] (.Name "code" ⟨6, 20, 6, 24⟩) ⟨6, 8, 6, 24⟩]
def xS : Scope := { kind := .function, names := [(PySem.Str.ofString "self", .local), (PySem.Str.ofString "code", .local), (PySem.Str.ofString "__class__", .free), (PySem.Str.ofString "super", .globalImplicit)], isGenerator := false, isCoroutine := false, more := [] }
/-- what the written part says of an error's class at C whose __init__ (at fI) is that of D -/
structure XcTxt (P : Program) (K : Frag) (mg : Str → Option Value) (qual : Str) (C fI : Addr) : Prop where
  cls : ∃ nm q N bs bm sn sub ab col dd k0 k1 k2 k3 k5, K.lookup C = some (excClassObj nm q C N bs bm true sn sub ab col dd k0 k1 k2 k3 k5 "ValueError.__new__") ∧ refsVE bm = true
  sa : findIn K (.ref C) "__setattr__" = some (some (.builtin "object.__setattr__"))
  noN : findIn K (.ref C) "code" = some none
  iC : findIn K (.ref C) "__init__" = some (some (.ref fI))
  tC : typeIn K (.ref fI) = some (.type "function")
  kC : keepIn K (.ref C) = true
  exC : subIn K (.ref C) (.type "BaseException") = some true
  veC : subIn K (.ref C) (.type "ValueError") = some true
  tyC : typeIn K (.ref C) = some (.type "type")
  tp : nsIn K cStatics "thirdparty.any" = some none
  sup : nsIn K mainGlobals "super" = some none
  file : ∃ (D cda cc : Addr) (ccl cl : Value) (cdd cld : Option Addr) (ccs csl : Array (Option Value)) (vs : Array Value) (file : Str) (tf : Tok) (cdD : ClassData) (oc : Value) (od : Option Addr) (doc pm : Value) (an : Option Addr) (ct : Value) (osl : Array (Option Value)),
    K.lookup cda = some ⟨ccl, cdd, .fields vs, ccs⟩ ∧ vs[2]? = some (.str file tf) ∧ ((P.main.file : Str) == file) = true ∧ K.lookup cc = some ⟨cl, cld, .cell (some (.ref D)), csl⟩ ∧ clsIn K D = some cdD ∧ mroIn K C (.ref D) = some true ∧
    ks_superIn K C D "__init__" = some (some (.builtin "ValueError.__init__")) ∧ (P.main.scope.names.lookup ("super" : Str)).isSome = false ∧
    K.lookup fI = some ⟨oc, od, .func (ksFn "__init__" qual xA xB xS .none .none doc pm an (.ref cda) ct cc), osl⟩ ∧ codeIn K (.ref cda) qual = true
structure InitEnd (h h' : Heap) (x C dx t1 : Addr) (v : Value) : Prop where
  keep : ∀ b o, b ≠ x → h.get? b = some o → h'.get? b = some o
  obj : h'.get? x = some { cls := .ref C, dict := some dx, data := .fields #[.ref t1, .none, .none, .none, .bool false, .none] }
  dbig : h.objs.size ≤ dx
  dne : dx ≠ x
  ns : h'.Ns1 dx (fun y => if y = "code" then some v else none)
/-- a made error -/
structure OwnMade (h h' : Heap) (e C d : Addr) (v : Value) : Prop where
  keep : ∀ b o, h.get? b = some o → h'.get? b = some o
  new : h.objs.size ≤ e
  obj : ∃ oe vs, h'.get? e = some oe ∧ oe.cls = .ref C ∧ oe.dict = some d ∧ oe.data = .fields vs ∧ vs[1]? = some .none
  dbig : h.objs.size ≤ d
  dne : d ≠ e
  ns : h'.Ns1 d (fun y => if y = "code" then some v else none)
theorem one_size (v : Value) : [v].length ≤ sizeLine := by
  rw [sizeLine_eq]
  exact (by decide : 1 ≤ 16777216)
theorem ldX {M : Model} {s : Shared} {name : Str} {scope : Scope} {L a cc : Addr} {cd : Value} {m : Str → Option Value} {x : Str} {pos : Pos} {v : Value} {Q : Value → Shared → Prop} {A : Around} {E : Value → Shared → Prop} (hn : s.heap.Ns L m) (hv : m x = some v) (h : Q v s)
    (hk : scope.kind = .function := by rfl) (hl : (ksEnv name scope L a cd cc).kindOf x = some .local := by rfl) (hd : (x == ("__debug__" : Str)) = false := by decide) :
    wpAny M A (eval (.Name x pos) (ksEnv name scope L a cd cc)) Q E s := wpAny_Name (wpAny_loadName_local hk hl hn hv h) hd
section
variable {prog : Program} {w : World} {A : Around} {E : Value → Shared → Prop} {R : Result → Shared → Prop} {s : Shared} {K : Frag} {mg mb : Str → Option Value} {C fI : Addr} {qual : Str}
theorem xc_init (T : XcTxt prog K mg qual C fI) {x t0 : Addr} {v : Value} (X : K.In s.heap) (hg : s.heap.Ns mainGlobals mg) (hms : mg "super" = none) (hb : s.heap.Ns builtinsNs mb) (hmb : mb "super" = some (.type "super")) (hlim : s.heap.NoLimit) (hx : s.heap.get? x = some (excO C t0)) (hnx : K.lookup x = none) (hroom : A.depth < recursionLimit)
    (hq : ∀ h' tk dx t1, InitEnd s.heap h' x C dx t1 v → R (.ok (.ret .none)) { s with heap := h', toks := tk }) :
    codeAny (model prog w) A (.call (.ref fI) ⟨[.ref x, v], []⟩) R s := by
  obtain ⟨D, cda, cc, ccl, cl, cdd, cld, ccs, csl, vs, file, tf, cdD, oc, od, doc, pm, an, ct, osl, e1, e2, e3, e4, e5, e6, e7, e8, ho, hcd⟩ := T.file
  obtain ⟨nm, q, N, bs, bm, sn, sub, ab, col, dd, k0, k1, k2, k3, k5, hC, hbm⟩ := T.cls
  have hcl : clsIn K C = some { name := nm, bases := bs, mro := .ref C :: bm, ns := N, qualname := q, hasDict := true, slotNames := sn, subclasses := sub, abstract := ab, collection := col, hasDel := false } := by unfold clsIn; rw [hC] <;> rfl
  refine ks_codeAny_call_defAt (fd := ksFn "__init__" qual xA xB xS .none .none doc pm an (.ref cda) ct cc) (body := xB) (binds := [("self", .ref x), ("code", v)]) hroom (X _ _ ho) rfl hlim (codeRec_of X hcd) rfl (BindsTo.of_eq (by first | rfl | with_unfolding_all rfl)) (show ∀ x ∈ xS.names, x.2 ≠ .cell by decide) (fun y hy => by
    simp only [List.mem_cons, List.not_mem_nil, or_false] at hy
    rcases hy with rfl | rfl <;> rfl) (fun h₁ hns k => ?_)
  have hxL : s.heap.objs.size ≠ x := Nat.ne_of_gt (Heap.lt_size hx)
  have X₁ : K.In h₁ := X.keeps k
  have hx₁ := k _ _ hx
  show PySem.wpAt (model prog w) _ (.func _ (ksEnv qual xS s.heap.objs.size fI (.ref cda) cc)) (execs _ (ksEnv qual xS s.heap.objs.size fI (.ref cda) cc)) _ _ _
  refine ks_wpAt_execs_cons (ks_wpAt_Expr_any ?_)
  refine ks_wpAt_MethodCall ?_
  obtain ⟨oD, hD1, hD2⟩ : ∃ oD, h₁.get? D = some oD ∧ oD.data = .cls cdD := by
    unfold clsIn at e5
    split at e5
    · rename_i c d cd' sl ho
      cases e5
      exact ⟨_, X₁ _ _ ho, rfl⟩
    · cases e5
  refine ks_wpAt_super_base (env := ksEnv qual xS s.heap.objs.size fI (.ref cda) cc) (ar := { arg := "self", annotation := none, pos := ⟨4, 17, 4, 21⟩ }) rfl rfl (by decide) rfl (X₁ _ _ ho) rfl rfl rfl (X₁ _ _ e1) rfl e2 e3 e8 ?_
  refine ks_loadName_global rfl rfl (loadGlobal_builtin (env := ksEnv qual xS s.heap.objs.size fI (.ref cda) cc) (hg.keeps k) hms (hb.keeps k) hmb ⟨rfl, ?_⟩)
  refine wpAny_loadName_free rfl rfl rfl ⟨_, X₁ _ _ e4, rfl⟩ ?_
  refine wpAny_loadName_local (v := .ref x) rfl rfl hns (by first | rfl | with_unfolding_all rfl | kernel_rfl) ?_
  refine ks_wpAny_isType_cls hD1 hD2 ⟨rfl, ?_⟩
  refine ks_wpAny_call_super hD1 hD2 hx₁ rfl (fun c e => by cases e) (looks_mroIn X₁ e6) (fun h₂ so k₂ => ?_)
  have X₂ : K.In h₂ := X₁.keeps k₂
  have hx₂ := k₂ _ _ hx₁
  have I2 : InstAt h₂ x (excO C t0) C none := ⟨hx₂, rfl, rfl, trivial⟩
  have hI : Looks (model prog w) h₂ (isInstance (.ref x) (.type "ValueError")) true := I2.type.andThen (looks_subIn X₂ T.veC)
  unfold ks_superIn at e7
  rw [hcl] at e7
  refine kxs_getMethod kxs_ValueError so (looks_opaque X₂ T.tp) (l₀ := .ref C :: bm) (fun A Q E s k q => wpAny_bind ((looks_clsIn X₂ hcl) A _ E s k (wpAny_pure q))) rfl X₂ e7 hI (fun z => by
    subst z
    rw [X₁ _ _ hC] at hx₁
    cases hx₁) (by decide) ?_
  -- the call
  show wpAny (model prog w) _ (callWith ⟨5, 8, 5, 30⟩ (.ref h₂.objs.size) [] (backTo ⟨5, 8, 5, 30⟩ (starEach [.Name "code" ⟨5, 25, 5, 29⟩] (ksEnv qual xS s.heap.objs.size fI (.ref cda) cc))) []) _ _ _
  have k₃ : ∀ b o, h₂.get? b = some o → (h₂.push (kxs_mw "ValueError.__init__" x)).get? b = some o := fun b o e => Heap.get?_push_of_some _ e
  have hu : (h₂.push (kxs_mw "ValueError.__init__" x)).get? h₂.objs.size = some (kxs_mw "ValueError.__init__" x) := Heap.get?_push_at rfl rfl
  refine kxs_callWith (i := "ValueError.__init__") (x := x) rfl (evalArgs_plain (x := eval (.Name "code" ⟨5, 25, 5, 29⟩) (ksEnv qual xS s.heap.objs.size fI (.ref cda) cc)) (rest := []) (spliced_cons ?_))
  refine ldX (v := v) ((hns.keeps k₂).keeps k₃) (by first | rfl | with_unfolding_all rfl | kernel_rfl) (spliced_nil ⟨hu, ?_⟩)
  have hx₃ := k₃ _ _ hx₂
  have hC₃ := k₃ _ _ (X₂ _ _ hC)
  refine wpAny_call (codeAny_of_tree ?_)
  show wpAny _ _ (callAny (.ref h₂.objs.size) ⟨[v], []⟩) _ _ _
  simp only [callAny]
  refine wpAny_bind (wpAny_load hu ?_)
  simp only [kxs_mw, show (Value.type "method-wrapper" == Value.type "method" || Value.type "method-wrapper" == Value.type "builtin_function_or_method" || Value.type "method-wrapper" == Value.type "method-wrapper") = true by decide, if_true]
  refine KFB.if_so (by decide) ?_
  refine wpAny_bind (check_bound_init F.excBase_ValueError.toExcCallFacts hC₃ hx₃ rfl ?_)
  refine wpAny_bind (wpAny_pure (wpAny_pure ?_))
  refine ⟨plainId_quiet F.excBase_ValueError.init.plain _, codeAny_builtin F.excBase_ValueError.initEntry ?_⟩
  refine exc_init_tree (cls := .ref C) (t0 := t0) (dv := none) (c2 := .none) (c3 := .none) (b4 := .bool false) hx₃ (one_size v) fun h₄ k₄ hx₄ ht₄ => ?_
  have X₃ : K.In (h₂.push (kxs_mw "ValueError.__init__" x)) := X₂.keeps k₃
  have X₄ : K.In h₄ := fun a o e => k₄ a o (fun y => by rw [y, hnx] at e; cases e) (X₃ a o e)
  have hns₄ : h₄.Ns s.heap.objs.size (fun y => [(("self" : Str), Value.ref x), (("code" : Str), v)].reverse.lookup y) := by
    obtain ⟨oL, es, ep, hL, r⟩ := (hns.keeps k₂).keeps k₃
    exact ⟨oL, es, ep, k₄ _ _ hxL hL, r⟩
  show PySem.wpAt _ _ _ (execs _ _) _ _ _
  refine wpAt_of_wpAny ?_
  refine wpAny_execs_cons (plainObj_wpAny_Assign_Attribute ?_)
  refine ldX (v := v) hns₄ (by first | rfl | with_unfolding_all rfl | kernel_rfl) (ldX (v := .ref x) hns₄ (by first | rfl | with_unfolding_all rfl | kernel_rfl) ?_)
  refine set_plain X₄ (ox := excO C (h₂.push (kxs_mw "ValueError.__init__" x)).objs.size) (od := none) ⟨hx₄, rfl, rfl, trivial⟩ T.sa ?_
  refine HandSPX.exc_osa X₄ hx₄ hcl (show HandSPX.refsVE (.ref C :: bm) = true from hbm) rfl T.noN (fun h₅ tk₅ dx k₅ dn dne hx₅ hn₅ => ?_)
  show wpAny _ _ (execs _ _) _ _ _
  have z : s.heap.objs.size < h₄.objs.size := hns₄.lt
  exact wpAny_execs_nil (hq h₅ tk₅ dx _ ⟨fun b o hb e => k₅ b o hb (k₄ b o hb (k₃ b o (k₂ b o (k b o e)))), hx₅, Nat.le_of_lt (Nat.lt_of_lt_of_le z dn), dne, hn₅⟩)
theorem xc_made (T : XcTxt prog K mg qual C fI) {v : Value} (X : K.In s.heap) (hg : s.heap.Ns mainGlobals mg) (hms : mg "super" = none) (hb : s.heap.Ns builtinsNs mb) (hmb : mb "super" = some (.type "super")) (hlim : s.heap.NoLimit) (hroom : A.depth + 1 < recursionLimit)
    (hq : ∀ h' tk e d, OwnMade s.heap h' e C d v → R (.ok (.ret (.ref e))) { s with heap := h', toks := tk }) :
    codeAny (model prog w) A (.call (.ref C) ⟨[v], []⟩) R s := by
  obtain ⟨nm, q, N, bs, bm, sn, sub, ab, col, dd, k0, k1, k2, k3, k5, hC, hbm⟩ := T.cls
  obtain ⟨hp, g, dr, tk, os⟩ := s
  have k : ∀ b o, hp.get? b = some o → ((hp.push (kdv_tup [v])).push (excO C hp.objs.size)).get? b = some o := fun b o e => Heap.get?_push_of_some _ (Heap.get?_push_of_some _ e)
  have hget : ((hp.push (kdv_tup [v])).push (excO C hp.objs.size)).get? (hp.objs.size + 1) = some (excO C hp.objs.size) := by heap_get
  have hnx : K.lookup (hp.objs.size + 1) = none := by
    cases e : K.lookup (hp.objs.size + 1) with
    | none => rfl
    | some o =>
      have z : hp.get? (hp.objs.size + 1) = some o := X _ _ e
      exact absurd (Nat.lt_of_succ_lt (Heap.lt_size z)) (Nat.lt_irrefl _)
  refine HandSPX.call_own F.excBase_ValueError (fun X => HandSPX.refsVE_contains X bm hbm) (X _ _ hC) (looks_findIn X T.iC) (fun self => bind_fn X self T.tC) (one_size v) ?_
  refine xc_init (s := ⟨(hp.push (kdv_tup [v])).push (excO C hp.objs.size), g, dr, tk, os⟩) T (X.keeps k) (hg.keeps k) hms (hb.keeps k) hmb (hlim.keeps k) hget hnx ?_ fun h' tk' dx t1 ⟨k', hx, dn, dne, hns⟩ => ?_
  · show A.depth + 1 < recursionLimit
    exact hroom
  · have old : ∀ b o, hp.get? b = some o → h'.get? b = some o := fun b o e => k' b o (Nat.ne_of_lt (Nat.lt_succ_of_lt (Heap.lt_size e))) (k b o e)
    have z : hp.objs.size + 1 + 1 ≤ dx := by
      first
        | (simpa only [Heap.size_push] using dn)
        | exact dn
        | (have q := dn; rw [Heap.size_push, Heap.size_push] at q; exact q)
    exact ⟨rfl, hq h' tk' (hp.objs.size + 1) dx ⟨old, Nat.le_succ _, ⟨_, _, hx, rfl, rfl, rfl, rfl⟩, Nat.le_trans (Nat.le_trans (Nat.le_succ _) (Nat.le_succ _)) z, dne, hns⟩⟩
end
theorem relO_code {v : V} {v' : Value} (r : RelV v v') (f : Str) : RelO (List.lookup f [(("code" : Str), v)]) (if f = "code" then some v' else none) := by
  by_cases hw : f = "code"
  · subst hw
    rw [if_pos rfl]
    have q : List.lookup ("code" : Str) [(("code" : Str), v)] = some v := by simp [List.lookup]
    rw [q]
    exact r
  · rw [if_neg hw]
    have qw : (f == ("code" : Str)) = false := by simpa using hw
    have q2 : List.lookup f [(("code" : Str), v)] = none := by simp [List.lookup, qw]
    rw [q2]
    trivial
section
variable {X : Cx} {C fI : Addr} {qual : Str} {W : WX}
/-- C(e) -/
def tMkX (C : Addr) (ta : TA) : L2.St → Hp → XK → Prop := fun σ H Q => ta σ H fun vs H1 => ∃ v, vs = [v] ∧ ∀ d, H1 d = none → Q (.ref C) (some d) (upd H1 d (.xd [(("code" : Str), v)]))
theorem pmk_x {cn : Str} {a : Expr} {ta : TA} {p pos : Pos} {k : Nat} (T : XcTxt X.prog X.K X.mg qual C fI) (gC : X.mg cn = some (.ref C)) (gs : X.mg "super" = none) (hr : Room k X.A) (ha : PA X [a] ta) (hg : Gl X cn := by rfl) (hdb : (cn == ("__debug__" : Str)) = false := by decide)
    (he : starEach (a :: []) X.env = (false, eval a X.env) :: starEach [] X.env := by rfl) (hpl : (backTo pos (starEach [] X.env)).any (·.1) = false := by rfl) :
    PMk X (.Call (.Name cn p) [a] [] pos) (tMkX C ta) := by
  intro pins s σ H Q I h
  refine wpAny_Call_Name_kw (ld_glob I hg gC ?_ hdb)
  refine PySem.W.callWith_K (h₀ := X.base) I.ok.mod.kin T.kC (thn (ha.run pos pins s σ H _ I h) fun us s1 hh => ?_) he hpl
  obtain ⟨vs, H1, I1, r1, v, ev, q1⟩ := hh
  subst ev
  refine ⟨I1.kIn, ?_⟩
  cases r1 with
  | cons rv rn =>
    rename_i v' us'
    cases rn
    show wpAny _ _ (call (.ref C) [v']) _ _ _
    have hlim := I1.nolimit
    have hgl := I1.mod.glob.keeps I1.bk
    obtain ⟨mb, hblt, hboot⟩ := I1.mod.blt
    have hbl := hblt.keeps I1.bk
    obtain ⟨hp, g, dr, tk, os⟩ := s1
    refine wpAny_call (xc_made T I1.kIn hgl gs hbl ((hboot _ (by decide)).trans (by decide +kernel)) hlim (by have := hr.dp; omega) fun h' tk' e d M => ?_)
    show MkP X pins σ Q (.ref e) ⟨h', g, dr, tk', os⟩
    obtain ⟨oe, fv, hoe, hc, hd, hdat, h1⟩ := M.obj
    have hns := M.ns
    obtain ⟨G', g1, g2⟩ := restrict h' fun b => decide (b ≠ e)
    have gk : ∀ b, b ≠ e → G'.get? b = h'.get? b := fun b hb => g1 b (decide_eq_true hb)
    have ge : G'.get? e = none := g2 e (by simp)
    have old : ∀ b o, hp.get? b = some o → G'.get? b = some o := fun b o q => (gk b (Nat.ne_of_lt (Nat.lt_of_lt_of_le (Heap.lt_size q) M.new))).trans (M.keep b o q)
    have ob : ObjOk X.prog X.w (upd H1 d (.xd [(("code" : Str), v)])) G' d (.xd [(("code" : Str), v)]) :=
      ⟨_, hns.at (fun o q => (gk d M.dne).trans q), fun f => relO_code rv f⟩
    have J : Inv X pins σ (upd H1 d (.xd [(("code" : Str), v)])) ⟨G', g, dr, tk', os⟩ := I1.laid (t' := tk') old M.dbig ob
    refine ⟨e, oe, fv, ⟨G', g, dr, tk', os⟩, _, .ref C, some d, rfl, J, fun b o q => ?_, ge, hoe, ⟨hc, hd⟩, hdat, h1, ?_, rfl, I1.bare, raises_own T.exC T.tyC, q1 d (I1.hok.fresh M.dbig)⟩
    · by_cases hb : b = e
      · have q' : G'.get? b = some o := q
        rw [hb, ge] at q'; cases q'
      · exact (gk b hb).symm.trans q
    · rw [upd_ne (Ne.symm M.dne)]
      exact I1.hok.fresh M.new
/-- raise C(e) -/
theorem ds_raise {B : List (Nat × Addr)} {cn : String} {m : M Vl} {a : Expr} {p pos pos2 : Pos} {k : Nat} (hc : X.calm = true) (T : XcTxt X.prog X.K X.mg qual C fI) (gC : X.mg (Str.ofString cn) = some (.ref C)) (gs : X.mg "super" = none) (hr : Room k X.A) (tk : Takes X W) (ha : DE X W a m) (hg : Gl X (Str.ofString cn) := by rfl) (hdb : ((Str.ofString cn) == ("__debug__" : Str)) = false := by decide)
    (he : starEach (a :: []) X.env = (false, eval a X.env) :: starEach [] X.env := by rfl) (hpl : (backTo pos (starEach [] X.env)).any (·.1) = false := by rfl) :
    DS X B W (.Raise (some (.Call (.Name (Str.ofString cn) p) [a] [] pos)) none pos2) (sRaise cn m) := by
  refine ⟨PSm (ps_raise hc tk (pmk_x T gC gs hr (pa_cons ha.p pa_nil he) hg hdb he hpl)) fun D σ H ⟨S, e, fp, wd, bo, h⟩ => ⟨S, e, fp, wd, ?_⟩⟩
  unfold sRaise at h
  cases hm : m e with
  | ex _ _ => simp only [hm] at h; exact exW.of bo h
  | bad => simp only [hm] at h; exact h
  | ok x e1 =>
    simp only [hm] at h
    intro S1 H1 fp1 fx v ext wd1 sep rx
    cases hx : x.d with
    | none => simp only [hx] at h; exact h.elim
    | some d =>
      simp only [hx] at h
      obtain ⟨ext1, wd1', rd⟩ := froze_wait ext wd1 sep hx rx
      refine ⟨v, rfl, fun da hda => ?_⟩
      have k : ∀ b o, H1 b = some o → upd H1 da (.xd [(("code" : Str), v)]) b = some o := fun b o q => by rw [upd_ne (ne_of_none q hda)]; exact q
      refine h _ _ fp1 σ (.ref C) (some da) (ext1.trans ((Ext.refl _ _ _).grow (fz := []) k (fun _ q => absurd q (by simp)))) (wd1'.grow k) bo ⟨C, da, _, gC, rfl, rfl, upd_same, v, [], rfl, rep.stb (Stb.grow k) d v rd, rfl⟩
end
end Fx
end

section
set_option Elab.async false
set_option linter.all false
set_option maxRecDepth 100000
set_option maxHeartbeats 4000000
/-! Wy: try .. except X as e. -/
namespace Fx
open PySem PySem.Spec PyProof.Rows L2 PySem.W PySem.Calls PySem.HandSPX

/-- an error's class by its name -/
structure Xk (P : Program) (K : Frag) (mg : Str → Option Value) (c : String) : Prop where
  ex : ∃ C fI qual, mg (Str.ofString c) = some (.ref C) ∧ XcTxt P K mg qual C fI ∧ XfC K C
/-- whether «except c'» takes a c -/
def Em (K : Frag) (mg : Str → Option Value) (c c' : String) (b : Bool) : Prop := ∀ C C', mg (Str.ofString c) = some (.ref C) → mg (Str.ofString c') = some (.ref C') → exmOne K (.ref C) (.ref C') = some b
theorem Wd.clear {K : Frag} {S : SP'} {H : Hp} {e : En} {fp : List Addr} {σ : L2.St} {i : Nat} {w : Option V} (wd : Wd K S H e fp σ) : ∃ fp', Wd K S H (e.set i none) fp' (σ.set i w) ∧ (∀ a ∈ fp', a ∈ fp) ∧ ∃ fr, fp.Perm (fp' ++ fr) := by
  by_cases hi : i < e.length
  · obtain ⟨f1, f2, f3, ef, k⟩ := wd.env.put hi
    subst ef
    have pm : (f1 ++ (f2 ++ f3)).Perm (f2 ++ (f1 ++ f3)) := by
      rw [← List.append_assoc, ← List.append_assoc]
      exact List.perm_append_comm.append_right f3
    refine ⟨f1 ++ ([] ++ f3), ⟨k S H none [] w (Stb.refl S H) (fun _ _ => rfl) rfl, by simpa using (wd.sep.perm pm).app2, wd.dom⟩, fun a q => ?_, f2, by simpa using pm.trans List.perm_append_comm⟩
    simp only [List.nil_append, List.mem_append] at q ⊢
    rcases q with q | q
    · exact .inl q
    · exact .inr (.inr q)
  · have l := wd.env.len
    rw [List.set_eq_of_length_le (by omega), List.set_eq_of_length_le (by omega)]
    exact ⟨fp, wd, fun _ h => h, [], by simp⟩
theorem bOk.set {B : List (Nat × Addr)} {σ : L2.St} {i : Nat} {w : Option V} (h : bOk B σ) (hB : ∀ p ∈ B, p.1 ≠ i) : bOk B (σ.set i w) := fun p hp => by
  rw [List.getElem?_set_ne (fun z => hB p hp z.symm)]
  exact h p hp
/-- a statement of the suite that holds the error x at a -/
def TXx (X : Cx) (B : List (Nat × Addr)) (i : Nat) (a : Addr) (cls : Value) (d : Option Addr) (c : Ex → C) : TS := fun D σ H =>
  ∃ x S e fp, Xk X.prog X.K X.mg x.cls ∧ Wd X.K S H e fp σ ∧ bOk B σ ∧ σ[i]? = some (some (.ref a)) ∧ exR X.K X.mg S H x cls d ∧ sPost X.K X.mg B W0 D S H fp (c x e)
/-- the suite's one statement -/
def DX (X : Cx) (B : List (Nat × Addr)) (i : Nat) (st : Stmt) (c : Ex → C) : Prop :=
  ∀ (a : Addr) (oe : Obj) (cls : Value) (d : Option Addr) (pn : List (Addr × Obj)), Zc cls d oe → (∃ vs, oe.data = .fields vs) → PS (X.suite a ((a, oe) :: pn)) st (TXx X B i a cls d c)
section
variable {X : Cx} {B : List (Nat × Addr)} {W : WX}
theorem dx_lift {i : Nat} {st : Stmt} {c : C} (h : ∀ (a : Addr) (pn : List (Addr × Obj)), DS (X.suite a pn) B W0 st c) : DX X B i st (fun _ => c) := fun a oe cls d pn _ _ =>
  PSm (h a ((a, oe) :: pn)).p fun D σ H ⟨x, S, e, fp, _, wd, bo, _, _, p⟩ => ⟨S, e, fp, wd, bo, p⟩
theorem fld_at {K : Frag} {S : SP'} {H : Hp} {n : String} {d : D} : ∀ {l : List (String × D)} {fs : List (Str × V)}, fldR K S H l fs → l.lookup n = some d → (∀ p ∈ l, Str.ofString p.1 = Str.ofString n → p.1 = n) → ∃ v, fs.lookup (Str.ofString n) = some v ∧ rep K S H d v
  | [], _, _, h, _ => by simp at h
  | (m, d') :: l, _, r, h, k => by
    obtain ⟨v, q, rfl, rv, rr⟩ := r
    by_cases hm : n = m
    · subst hm
      simp [List.lookup] at h
      subst h
      exact ⟨v, by simp [List.lookup], rv⟩
    · have h1 : (n == m) = false := by simpa using hm
      simp only [List.lookup, h1] at h
      obtain ⟨v', e1, e2⟩ := fld_at rr h fun p hp => k p (List.mem_cons_of_mem _ hp)
      have h2 : (Str.ofString n == Str.ofString m) = false := by
        simp only [beq_eq_false_iff_ne, ne_eq]
        exact fun z => hm (k (m, d') (by simp) z.symm).symm
      exact ⟨v', by simp only [List.lookup, h2]; exact e1, e2⟩
/-- e.code -/
theorem code_at {K : Frag} {mg : Str → Option Value} {S : SP'} {H : Hp} {x : Ex} {cls : Value} {dd : Option Addr} {d : D} (r : exR K mg S H x cls dd) (h : x.fs = [("code", d)]) : ∃ C da fs v, mg (Str.ofString x.cls) = some (.ref C) ∧ cls = .ref C ∧ dd = some da ∧ H da = some (.xd fs) ∧ fs.lookup ("code" : Str) = some v ∧ rep K S H d v := by
  obtain ⟨C, da, fs, h1, h2, h3, h4, h5⟩ := r
  rw [h] at h5
  obtain ⟨v, q, rfl, rv, rfl⟩ := h5
  exact ⟨C, da, _, v, h1, h2, h3, h4, by simp [List.lookup], rv⟩
theorem eCode_or (x : Ex) (e : En) : (∃ d, x.fs = [("code", d)] ∧ eCode x e = .ok (.v d) e) ∨ eCode x e = .bad := by
  unfold eCode
  split
  · rename_i d hx
    exact .inl ⟨d, hx, rfl⟩
  · exact .inr rfl
theorem pe_code {a : Addr} {oe : Obj} {cls : Value} {d : Option Addr} {pn : List (Addr × Obj)} {i : Nat} {n : Str} {p pos : Pos} {C : Addr} (T : XfC X.K C) (hno : findIn X.K (.ref C) "code" = some none) (hz : Zc cls d oe) (hf : ∃ vs, oe.data = .fields vs) (hN : X.N[i]? = some n) (hv : Vis X.env.scope n) (hd : (n == ("__debug__" : Str)) = false)
    (hcd : (n == ("__classdict__" : Str)) = false) (hb : attributeBase (.Name n p) "code" X.env (eval (.Name n p) X.env) = eval (.Name n p) X.env) :
    PE (X.suite a ((a, oe) :: pn)) (.Attribute (.Name n p) "code" pos) (tXf a cls d C "code" (tVar i)) :=
  pe_xf T hno hz hf (pe_var (X := X.suite a ((a, oe) :: pn)) hN hv hd hcd) hb
/-- return e.code -/
theorem dx_ret {i : Nat} {n : Str} {p p2 pos : Pos} (hN : X.N[i]? = some n := by rfl) (hv : Vis X.env.scope n := by first | exact Or.inl rfl | exact Or.inr (Or.inl rfl) | exact Or.inr (Or.inr rfl)) (hd : (n == ("__debug__" : Str)) = false := by decide)
    (hcd : (n == ("__classdict__" : Str)) = false := by decide) (hb : attributeBase (.Name n p) "code" X.env (eval (.Name n p) X.env) = eval (.Name n p) X.env := by rfl) :
    DX X B i (.Return (some (.Attribute (.Name n p) "code" p2)) pos) (fun x => sRet (eCode x)) := fun a oe cls d pn hz hf => by
  by_cases hc : ∃ C, cls = .ref C ∧ XfC X.K C ∧ findIn X.K (.ref C) "code" = some none
  · obtain ⟨C, hcl, T, hno⟩ := hc
    refine PSm (ps_ret (pe_code T hno hz hf hN hv hd hcd hb)) fun D σ H h => ?_
    obtain ⟨x, S, e, fp, xk, wd, bo, hs, xr, h⟩ := h
    dsimp only at h
    unfold sRet at h
    rcases eCode_or x e with ⟨dd, e1, e0⟩ | e0
    rotate_left
    · rw [e0] at h; exact h.elim
    rw [e0] at h
    obtain ⟨C', da, fs, v, _, e2, e3, e4, e5, rv⟩ := code_at xr e1
    rw [hcl] at e2
    cases e2
    exact ⟨.ref a, hs, rfl, hcl, da, fs, v, e3, e4, e5, h S H fp [] σ v (Ext.refl _ _ _) wd wd.sep bo ⟨rfl, rv⟩⟩
  · exact ⟨fun pins s σ H D I h => by
      obtain ⟨x, S, e, fp, xk, wd, bo, hs, xr, h⟩ := h
      obtain ⟨C, fI, qual, g1, g2, g3⟩ := xk.ex
      obtain ⟨C', da, fs, g4, g5, _⟩ := xr
      rw [g1] at g4
      cases g4
      exact absurd ⟨C, g5, g3, g2.noN⟩ hc⟩
/-- name.append(e.code) -/
theorem dx_app {i : Nat} (k : Nat) {y n : Str} {py apos p p2 pos pos' : Pos} (hN : X.N[i]? = some n := by rfl) (hv : Vis X.env.scope n := by first | exact Or.inl rfl | exact Or.inr (Or.inl rfl) | exact Or.inr (Or.inr rfl)) (hd : (n == ("__debug__" : Str)) = false := by decide)
    (hcd : (n == ("__classdict__" : Str)) = false := by decide) (hb : attributeBase (.Name n p) "code" X.env (eval (.Name n p) X.env) = eval (.Name n p) X.env := by rfl)
    (hN2 : X.N[k]? = some y := by rfl) (hv2 : Vis X.env.scope y := by first | exact Or.inl rfl | exact Or.inr (Or.inl rfl) | exact Or.inr (Or.inr rfl)) (hd2 : (y == ("__debug__" : Str)) = false := by decide) (hcd2 : (y == ("__classdict__" : Str)) = false := by decide)
    (he : starEach ((.Attribute (.Name n p) "code" p2) :: []) X.env = (false, eval (.Attribute (.Name n p) "code" p2) X.env) :: starEach [] X.env := by rfl) (hb2 : attributeBase (.Name y py) "append" X.env (eval (.Name y py) X.env) = eval (.Name y py) X.env := by rfl)
    (hfew : ((backTo pos (starEach ((.Attribute (.Name n p) "code" p2) :: []) X.env)).all (fun x => !x.1) && (backToKw pos (keywordEach [] X.env)).all (fun x => x.1.isSome) && decide (([(.Attribute (.Name n p) "code" p2)] : List Expr).length + ([] : List Keyword).length + (if ([] : List Keyword).isEmpty then 0 else 1) < 30)) = true := by rfl)
    (hline : (apos.endLine == pos.line) = true := by rfl) (hpl : (backTo pos (starEach [] X.env)).any (·.1) = false := by rfl) (hs : swapsWith (.Call (.Attribute (.Name y py) "append" apos) [.Attribute (.Name n p) "code" p2] [] pos) none pos'.line X.env = pure false := by rfl) :
    DX X B i (.Expr (.Call (.Attribute (.Name y py) "append" apos) [.Attribute (.Name n p) "code" p2] [] pos) pos') (fun x => sDrop (mApp k (eCode x))) := fun a oe cls d pn hz hf => by
  by_cases hc : ∃ C, cls = .ref C ∧ XfC X.K C ∧ findIn X.K (.ref C) "code" = some none
  · obtain ⟨C, hcl, T, hno⟩ := hc
    refine PSm (ps_expr (pe_bm PySem.F.plainAttrs_list PySem.F.slot_list_append PySem.F.type_list_append mt_append (pe_var (X := X.suite a ((a, oe) :: pn)) hN2 hv2 hd2 hcd2) (pa_cons (pe_code T hno hz hf hN hv hd hcd hb) pa_nil he) hb2 hfew hline he hpl) hs) fun D σ H h => ?_
    obtain ⟨x, S, e, fp, xk, wd, bo, hs, xr, h⟩ := h
    dsimp only at h
    unfold sDrop mApp at h
    split at h
    · rename_i y e' hm
      split at hm
      · rename_i l0 he0
        obtain ⟨a0, vs0, h1, h2, h3, _⟩ := wd.own he0
        rcases eCode_or x e with ⟨dd, e1, e0⟩ | e0
        rotate_left
        · rw [e0] at hm; simp at hm
        rw [e0] at hm
        simp only [Rs.then, Vl.d, he0] at hm
        split at hm
        · rename_i hz
          cases hm
          obtain ⟨C', da, fs, v, _, e2, e3, e4, e5, rv⟩ := code_at xr e1
          rw [hcl] at e2
          cases e2
          obtain ⟨a1, vs, g1, g2, g3, g4⟩ := wd.own he0
          rw [h1] at g1
          cases g1
          obtain ⟨wd2, ext2⟩ := g4 (l0 ++ [dd]) (vs ++ [v]) (g3.app (reps.cons rv reps.nil))
          exact ⟨.ref a0, h1, list_ty h2, .ref a, hs, rfl, hcl, da, fs, v, e3, e4, e5, a0, vs, v, rfl, rfl, g2, by rw [← g3.length, ← lim_eq]; exact hz, h S _ fp σ ext2 wd2 bo⟩
        · cases hm
      · cases hm
    · rename_i y e' hm
      split at hm
      · rename_i l0 he0
        rcases eCode_or x e with ⟨dd, e1, e0⟩ | e0 <;> rw [e0] at hm <;> simp only [Rs.then, Vl.d, he0] at hm
        · split at hm <;> cases hm
        · cases hm
      · cases hm
    · exact h.elim
  · exact ⟨fun pins s σ H D I h => by
      obtain ⟨x, S, e, fp, xk, wd, bo, hs, xr, h⟩ := h
      obtain ⟨C, fI, qual, g1, g2, g3⟩ := xk.ex
      obtain ⟨C', da, fs, g4, g5, _⟩ := xr
      rw [g1] at g4
      cases g4
      exact absurd ⟨C, g5, g3, g2.noN⟩ hc⟩
theorem ds_try {i : Nat} {cn : String} {n : Str} {np pos pos' : Pos} {body : List Stmt} {b₀ : Stmt} {c : C} {cs ns : List String} {s : Ex → C} (hs : X.stack = X.env :: X.outer) (hf : X.env.frame = some X.env.locals) (hN : X.N.Nodup) (tk : Takes X W)
    (hb : ∀ (W' : WX) (pn : List (Addr × Obj)) (xe : Value → Shared → Prop), Takes (X.tr pn xe) W' → PassesOwn (model X.prog X.w) X.A X.env xe → DSs (X.tr pn xe) B W' body c)
    (hsu : DX X B i b₀ s) (xc : Xk X.prog X.K X.mg cn) (xs : ∀ q ∈ cs, Xk X.prog X.K X.mg q ∧ Em X.K X.mg q cn true) (xn : ∀ q ∈ ns, Em X.K X.mg q cn false)
    (hg : Gl X (Str.ofString cn) := by rfl) (hdb : ((Str.ofString cn) == ("__debug__" : Str)) = false := by decide) (hi : X.N[i]? = some n := by rfl) (hln : X.env.kindOf n = some .local := by rfl) (hB : ∀ p ∈ B, p.1 ≠ i := by simp) :
    DS X B W (.Try body [.ExceptHandler (some (.Name (Str.ofString cn) np)) (some n) [b₀] pos'] [] [] pos) (sTry c cs ns i s) := by
  obtain ⟨C, fI, qual, g1, g2, g3⟩ := xc.ex
  refine ⟨PSm (ps_try_as (c := .ref C) (ts := fun a cls d => TXx X B i a cls d s) (tb := fun W' => TSx X.K X.mg B W' c) hs hf hN hi hln ⟨hg, hdb, .inl g1⟩ tk (fun W' pn xe t p => (hb W' pn xe t p).p) (fun a oe cls d pn hz hf => pss_one (hsu a oe cls d pn hz hf))) fun D σ H ⟨S, e, fp, wd, bo, h⟩ => ⟨S, e, fp, wd, bo, ?_⟩⟩
  unfold sTry at h
  cases hc : c e with
  | nxt _ => simp only [hc] at h; exact h
  | ret _ _ => simp only [hc] at h; exact h
  | brk _ => simp only [hc] at h; exact h
  | cnt _ => simp only [hc] at h; exact h
  | bad => simp only [hc] at h; exact h
  | ex x e1 =>
    simp only [hc] at h
    intro S1 H1 fp1 σ1 cc dd ext wd1 bo1 xr
    obtain ⟨C1, d1, fs, g4, g5, g6⟩ := xr
    subst g5
    by_cases hm : cs.contains x.cls = true
    · rw [if_pos hm] at h
      have hm' : x.cls ∈ cs := by simpa using hm
      obtain ⟨xk, em⟩ := xs _ hm'
      refine ⟨true, em C1 C g4 g1, fun _ a na => ?_, fun z => by cases z⟩
      obtain ⟨fp2, wd2, sub2, _⟩ := wd1.clear (i := i) (w := some (.ref a))
      have ext2 : Ext S H fp S1 H1 fp2 := ext.sub sub2
      by_cases hle : i < e1.length
      rotate_left
      · rw [if_neg hle] at h; exact h.elim
      rw [if_pos hle] at h
      have hlt : i < σ1.length := by rw [← wd1.env.len]; exact hle
      refine ⟨x, S1, e1.set i none, fp2, xk, wd2, bo1.set hB, by rw [List.getElem?_set_self hlt], ⟨C1, d1, fs, g4, rfl, g6⟩, ?_⟩
      have back : ∀ {P : L2.St → Hp → Prop} {e2 : En}, goOn X.K B S H fp P (e2.set i none) → goOn X.K B S1 H1 fp2 (fun σ' H' => P (σ'.set i none) H') e2 := fun {P e2} g S' H' fp' σ' x1 w1 b1 => by
        obtain ⟨fp3, wd3, sub3, _⟩ := w1.clear (i := i) (w := none)
        exact g S' H' fp3 _ ((ext2.trans x1).sub sub3) wd3 (b1.set hB)
      cases hq : s x (e1.set i none) with
      | nxt e2 => simp only [hq] at h; exact back h
      | brk e2 => simp only [hq] at h; exact back h
      | cnt e2 => simp only [hq] at h; exact back h
      | ret y e2 =>
        simp only [hq] at h
        intro S' H' fp' fx σ' v x1 w1 sp b1 r
        obtain ⟨fp3, wd3, sub3, fr, pm⟩ := w1.clear (i := i) (w := none)
        have pm2 : (fx ++ fp').Perm ((fx ++ fp3) ++ fr) := by
          rw [List.append_assoc]
          exact pm.append_left fx
        exact h S' H' fp3 fx _ v ((ext2.trans x1).sub fun a q => pm2.mem_iff.mpr (List.mem_append_left _ q)) wd3 (sp.perm pm2).app1 (b1.set hB) r
      | ex _ _ => simp only [hq] at h; exact h.elim
      | bad => simp only [hq] at h; exact h.elim
    · rw [if_neg hm] at h
      by_cases hn : ns.contains x.cls = true
      · rw [if_pos hn] at h
        exact ⟨false, xn _ (by simpa using hn) C1 C g4 g1, (fun z => absurd z Bool.false_ne_true), fun _ => h S1 H1 fp1 σ1 _ dd ext wd1 bo1 ⟨C1, d1, fs, g4, rfl, g6⟩⟩
      · rw [if_neg hn] at h
        exact h.elim
end
end Fx
end

section
set_option Elab.async false
set_option linter.all false
set_option maxRecDepth 100000
set_option maxHeartbeats 4000000
/-! Wo: comprehensions that make lists of one's own. -/
namespace Fx
open PySem PySem.Spec PyProof.Rows L2

theorem rows.app {K : PySem.W.Frag} {S : SP'} {H : Hp} : ∀ {ls ms : List (List D)} {as bs : List Addr} {vs ws : List V}, rows K S H ls as vs → rows K S H ms bs ws → rows K S H (ls ++ ms) (as ++ bs) (vs ++ ws)
  | [], _, _, _, _, _, h, h' => by unfold rows at h; rw [h.1, h.2]; exact h'
  | l :: ls, _, _, _, _, _, h, h' => by
    unfold rows at h
    obtain ⟨b, r, ws, rs, h1, h2, h3, h4, h5⟩ := h
    subst h1 h2
    show rows K S H (l :: (ls ++ _)) (b :: (r ++ _)) (.ref b :: (rs ++ _))
    unfold rows
    exact ⟨b, _, ws, _, rfl, rfl, h3, h4, rows.app h5 h'⟩
structure CO (K : PySem.W.Frag) (S1 : SP') (H1 : Hp) (fp1 : List Addr) (D' : Addr) (σw : L2.St) (e : En) (acc : List (List D)) (H : Hp) (S : SP') (as fp : List Addr) : Prop where
  ext : Ext S1 H1 fp1 S H ((D' :: as) ++ fp)
  wd : Wd K S H e fp σw
  sep : Sep S H ((D' :: as) ++ fp)
  at_ : ∃ vs, H D' = some (.lst vs) ∧ rows K S H acc as vs
section
variable {K : PySem.W.Frag} {S1 S S2 : SP'} {H1 H H2 : Hp} {fp1 fp fp2 as : List Addr} {D' : Addr} {σw σ2 : L2.St} {e e2 : En} {acc : List (List D)}
theorem CO.start {e1 : En} {σ : L2.St} {vs : List Nat} (wd1 : Wd K S1 H1 e1 fp1 σ) (hD : H1 D' = none) : ∃ fp, CO K S1 H1 fp1 D' (wipe σ vs) (Fx.hide e1 vs) [] (upd H1 D' (.lst [])) S1 [] fp := by
  obtain ⟨fp, ci⟩ := CI.start (vs := vs) wd1 hD
  exact ⟨fp, ci.ext, ci.wd, ci.sep, [], upd_same, rfl, rfl⟩
theorem CO.step (c : CO K S1 H1 fp1 D' σw e acc H S as fp) (x : Ext S H fp S2 H2 fp2) (wd2 : Wd K S2 H2 e2 fp2 σ2) : CO K S1 H1 fp1 D' σ2 e2 acc H2 S2 as fp2 := by
  obtain ⟨s1, s2⟩ := c.sep.wait x wd2.sep
  obtain ⟨vs, h1, h2⟩ := c.at_
  exact ⟨c.ext.wait x, wd2, s1, vs, by rw [s2 D' (by simp)]; exact h1, rows.stb (x.stb c.wd.sep) _ _ _ (fun a q => s2 a (List.mem_cons_of_mem _ q)) h2⟩
theorem CO.same (c : CO K S1 H1 fp1 D' σw e acc H S as fp) (wd2 : Wd K S H e2 fp2 σ2) (sub : ∀ a ∈ fp2, a ∈ fp) : CO K S1 H1 fp1 D' σ2 e2 acc H S as fp2 :=
  c.step ((Ext.refl S H fp).sub sub) wd2
theorem CO.stb (c : CO K S1 H1 fp1 D' σw e acc H S as fp) (sp : Sep S1 H1 fp1) : Stb S1 H1 S H := c.ext.stb sp
/-- a list is put behind -/
theorem CO.push {l : List D} {b : Addr} {vs ws : List V} (c : CO K S1 H1 fp1 D' σw e acc H S as fp) (hD : H1 D' = none) (x : Ext S H fp S2 H2 ([b] ++ fp2)) (wd2 : Wd K S2 H2 e2 fp2 σ2) (sep2 : Sep S2 H2 ([b] ++ fp2)) (hv : H2 D' = some (.lst vs)) (hb : H2 b = some (.lst ws)) (r : reps K S2 H2 l ws) :
    CO K S1 H1 fp1 D' σ2 e2 (acc ++ [l]) (upd H2 D' (.lst (vs ++ [.ref b]))) S2 (as ++ [b]) fp2 := by
  obtain ⟨s1, s2⟩ := c.sep.wait x sep2
  have ext3 := c.ext.wait x
  obtain ⟨vs', h1, h2⟩ := c.at_
  have e1 : H2 D' = H D' := s2 D' (by simp)
  rw [hv, h1] at e1
  simp only [Option.some.injEq, HO.lst.injEq] at e1
  subst e1
  have pm : ((D' :: as) ++ ([b] ++ fp2)).Perm ([D'] ++ ((as ++ [b]) ++ fp2)) := by simp
  have pm2 : ((D' :: as) ++ ([b] ++ fp2)).Perm ((D' :: (as ++ [b])) ++ fp2) := by simp
  have sD : Sep S2 H2 ([D'] ++ ((as ++ [b]) ++ fp2)) := s1.perm pm
  have pm3 : ([D'] ++ ((as ++ [b]) ++ fp2)).Perm (([D'] ++ fp2) ++ (as ++ [b])) := by
    exact (List.append_assoc [D'] fp2 (as ++ [b])) ▸ (List.perm_append_comm (l₁ := as ++ [b]) (l₂ := fp2)).append_left [D']
  have sF : Sep S2 H2 ([D'] ++ fp2) := (sD.perm pm3).app1
  obtain ⟨wd3, st, _⟩ := wd2.write (ws := vs ++ [.ref b]) sF hv
  have ne : ∀ a ∈ as ++ [b], a ≠ D' := fun a q z => by subst z; exact sD.apart (by simp) (List.mem_append_left _ q)
  have rw1 : rows K S2 H2 acc as vs := rows.stb (x.stb c.wd.sep) _ _ _ (fun a q => s2 a (List.mem_cons_of_mem _ q)) h2
  have rw2 : rows K S2 H2 [l] [b] [.ref b] := by unfold rows; exact ⟨b, [], ws, [], rfl, rfl, hb, r, by unfold rows; exact ⟨rfl, rfl⟩⟩
  refine ⟨?_, wd3, ⟨?_, ?_, ?_⟩, _, upd_same, rows.stb st _ _ _ (fun a q => upd_ne (ne a q)) (rw1.app rw2)⟩
  · have z := ext3.perm pm2
    exact ⟨fun a o h q => by rw [upd_ne (ne_of_none h hD)]; exact z.keep a o h q, z.fresh, z.mono, z.sfr⟩
  · exact (s1.perm pm2).nd
  · exact (s1.perm pm2).ns
  · intro a q
    by_cases z : a = D'
    · subst z; exact ⟨_, upd_same, trivial⟩
    · rw [upd_ne z]; exact (s1.perm pm2).ow a q
theorem comp_itemO {mg : Str → Option Value} {e1 : En} {t : M Bool} {x : M Vl} {Nx : Hp → Prop} {cont : List (List D) → En → Rs (List (List D))} {accF : List (List D)} {eF : En}
    (c : CO K S1 H1 fp1 D' σ2 e1 acc H S as fp) (hD : H1 D' = none) (hz : acc.length < sizeLine)
    (hres : (match t e1 with
      | .ok true e2 => (match x e2 with
        | .ok (.o y) e3 => cont (acc ++ [y]) e3
        | _ => .bad)
      | .ok false e2 => cont acc e2
      | _ => .bad) = .ok accF eF)
    (hN : ∀ S' H' as' fp' e' acc', (acc'.length ≤ acc.length + 1) → CO K S1 H1 fp1 D' σ2 e' acc' H' S' as' fp' → cont acc' e' = .ok accF eF → Nx H') :
    TR K mg W0 RB t σ2 H (fun b H3 => if b = true then TR K mg W0 (repV K) x σ2 H3 (fun y H4 => ∃ ac, H4 D' = some (.lst ac) ∧ ac.length < sizeLine ∧ Nx (upd H4 D' (.lst (ac ++ [y])))) else Nx H3) := by
  cases ht : t e1 with
  | bad => simp [ht] at hres
  | ex _ _ => simp [ht] at hres
  | ok b e2 =>
    refine TR.run0 c.wd ht fun S3 H3 fp3 fx v ext3 wd3 sep3 rb => ?_
    obtain ⟨rfl, rfl⟩ := rb
    have c3 := c.step ext3 wd3
    cases v with
    | false =>
      simp only [ht] at hres
      rw [if_neg Bool.false_ne_true]
      exact hN S3 H3 as fp3 e2 acc (Nat.le_succ _) c3 hres
    | true =>
      simp only [ht] at hres
      rw [if_pos rfl]
      cases hx : x e2 with
      | bad => simp [hx] at hres
      | ex _ _ => simp [hx] at hres
      | ok y e3 =>
        cases y with
        | v _ => simp [hx] at hres
        | oo _ => simp [hx] at hres
        | dc _ => simp [hx] at hres
        | rg _ _ => simp [hx] at hres
        | o l =>
          simp only [hx] at hres
          refine TR.run0 wd3 hx fun S4 H4 fp4 fy w ext4 wd4 sep4 ry => ?_
          obtain ⟨b, ws, rfl, rfl, hb, rr⟩ := ry
          obtain ⟨s1, s2⟩ := c3.sep.wait ext4 sep4
          obtain ⟨vs, h1, h2⟩ := c3.at_
          have h1' : H4 D' = some (.lst vs) := by rw [s2 D' (by simp)]; exact h1
          refine ⟨vs, h1', by rw [← h2.length.1]; exact hz, ?_⟩
          exact hN _ _ _ fp4 e3 (acc ++ [l]) (by simp) (c3.push hD ext4 wd4 sep4 h1' hb rr) hres
end
section
variable {Y Y1 : Bool} {X : Cx} {W : WX} {a b c : Expr} {pos : Pos} {m n : M Vl}
theorem comp_trO {vs ts : List Nat} {it : M (List D)} {g : D → En → Option En} {t : M Bool} {x : M Vl} (hts : ∀ i ∈ ts, i ∈ vs) {σ : L2.St} {H : Hp} {Q : VK} (h : TR X.K X.mg W (repV X.K) (eCompO vs it g t x) σ H Q) :
    tLc (fun σ H R => TR X.K X.mg W (fun S H ds fx (J : It) => fx = [] ∧ Wk X.K S H J ds Y) it σ H R) (TGd X.K ts g Y) (TR X.K X.mg W0 RB t) (TR X.K X.mg W0 (repV X.K) x) vs σ H Q := by
  refine TR.bind (R' := repV X.K) (k := fun l e1 => if l.length ≤ lim then (match compGoO vs g t x l [] (Fx.hide e1 vs) with | .ok acc e2 => .ok (.oo acc) (Fx.unhide e1 e2 vs) | _ => .bad) else .bad) (Q := Q) h fun S e fp S1 H1 e1 fp1 fx l J wd ext wd1 sep1 rj p => ?_
  obtain ⟨rfl, wk⟩ := rj
  split at p
  · rename_i hl
    cases hr : compGoO vs g t x l [] (Fx.hide e1 vs) with
    | bad => simp [hr, Rs.post] at p
    | ex _ _ => simp [hr, Rs.post] at p
    | ok accF eF =>
      simp only [hr, Rs.post] at p
      intro D' hD
      refine ⟨fun i m H' => m = l.length - i ∧ i ≤ l.length ∧ ∃ S' as fp' e' acc, acc.length ≤ i ∧ CO X.K S1 H1 fp1 D' (wipe σ vs) e' acc H' S' as fp' ∧ compGoO vs g t x (l.drop i) acc e' = .ok accF eF, ⟨l.length, by simp, Nat.zero_le _, ?_⟩, ?_⟩
      · obtain ⟨fp', ci⟩ := CO.start (vs := vs) wd1 hD
        exact ⟨S1, [], fp', _, [], Nat.le_refl _, ci, by simpa using hr⟩
      · rintro i m H' ⟨rfl, hi, S', as, fp', e', acc, hacc, ci, hgo⟩
        obtain ⟨wk1, wk2⟩ := wk S' H' (ci.stb wd1.sep)
        by_cases hlt : i < l.length
        · have hd : l.drop i = l[i] :: l.drop (i + 1) := List.drop_eq_getElem_cons hlt
          obtain ⟨go, yl⟩ := wk1 i l[i] (by simp [hlt])
          refine .inr ⟨go, fun H2 => ∃ S' as fp' e' acc, acc.length ≤ i + 1 ∧ CO X.K S1 H1 fp1 D' (wipe σ vs) e' acc H2 S' as fp' ∧ compGoO vs g t x (l.drop (i + 1)) acc e' = .ok accF eF, fun H2 h2 => ⟨l.length - (i + 1), by omega, rfl, hlt, h2⟩, fun y H2 hy => ?_⟩
          obtain ⟨gr, ry⟩ := yl y H2 hy
          have ci2 : CO X.K S1 H1 fp1 D' (wipe σ vs) e' acc H2 S' as fp' := ci.step ((Ext.refl S' H' fp').grow (fz := []) gr (fun _ q => absurd q (by simp))) (ci.wd.grow gr)
          rw [hd] at hgo
          unfold compGoO at hgo
          cases hgd : g l[i] e' with
          | none => simp [hgd] at hgo
          | some e2 =>
            simp only [hgd] at hgo
            refine ⟨S', e', fp', l[i], e2, ci2.wd, ry, hgd, fun σ2 Sg Hg fp2 xg wd2 o2 => ?_⟩
            have ew : wipe σ2 vs = wipe σ vs := by
              have h1 := wipe_out (vs := vs) o2 hts
              rw [h1]
              exact wipe_wipe fun _ h => h
            refine ⟨ew, ?_⟩
            have ci3 := ci2.step xg wd2
            refine comp_itemO (cont := fun acc e3 => compGoO vs g t x (l.drop (i + 1)) acc (Fx.hide e3 vs)) ci3 hD (lim_lt (Nat.lt_of_le_of_lt hacc hlt) hl) hgo fun S4 H4 as4 fp4 e4 acc4 hle ci4 hc4 => ?_
            obtain ⟨fp5, wd5, sub5⟩ := ci4.wd.hide (vs := vs)
            rw [ew] at wd5
            exact ⟨S4, as4, fp5, _, acc4, by omega, ci4.same wd5 sub5, hc4⟩
        · have ei : i = l.length := by omega
          subst ei
          refine .inl ⟨wk2, ?_⟩
          rw [List.drop_length] at hgo
          unfold compGoO at hgo
          cases hgo
          obtain ⟨fp6, wd6, sub6⟩ := Wd.unhide wd1 (ci.stb wd1.sep) (wipe_length σ vs) (vs := vs) ci.wd
          rw [back_wipe] at wd6
          have ci6 := ci.same wd6 sub6
          obtain ⟨ws, h1, h2⟩ := ci6.at_
          exact p S' H' fp6 (D' :: as) _ (ext.trans ci6.ext) wd6 ci6.sep ⟨D', ws, as, rfl, rfl, h1, h2⟩
  · exact p.elim
theorem de_compO {elt tg iter : Expr} {ifs : List Expr} {scope : Scope} {own : List (Str × Nat)} {ts : List Nat} {it : M (List D)} {g : D → En → Option En} {t : M Bool} {x : M Vl} (hc : X.calm = true) (hN : X.N.Nodup) (hi : DI X W tg iter it Y) (ok : BlkOk X.N X.env.scope scope own)
    (hg : ∀ (s : Shared) (H : Hp) (C : Addr) (cl : List (Str × Addr)) (fp : List Addr), DG (X.blk s H scope (compEnvC scope cl C X.env) fp) ts tg g Y) (ht : ∀ (s : Shared) (H : Hp) (C : Addr) (cl : List (Str × Addr)) (fp : List Addr), DTs (X.blk s H scope (compEnvC scope cl C X.env) fp) ifs t)
    (he : ∀ (s : Shared) (H : Hp) (C : Addr) (cl : List (Str × Addr)) (fp : List Addr), DE (X.blk s H scope (compEnvC scope cl C X.env) fp) W0 elt x) (hts : ∀ i ∈ ts, i ∈ own.map (·.2) := by decide) (hs : ∀ x, foldedSetIterable iter X.env x = pure x := by intro _; rfl) :
    DE X W (.ListComp elt [⟨tg, iter, ifs, 0⟩] scope pos) (eCompO (own.map (·.2)) it g t x) := by
  exact ⟨PEm (pe_lc (g := TGd X.K ts g Y) (tt := TR X.K X.mg W0 RB t) (te := TR X.K X.mg W0 (repV X.K) x) hc hN hi.p ok (fun s H C cl fp => (hg s H C cl fp).p) (fun s H C cl fp => (ht s H C cl fp).p) (fun s H C cl fp => (he s H C cl fp).p) hs) fun σ H Q h => comp_trO hts h⟩
theorem ds_setCO {B : List (Nat × Addr)} {i : Nat} {y : Str} {py spos : Pos} {elt tg iter : Expr} {ifs : List Expr} {scope : Scope} {own : List (Str × Nat)} {ts : List Nat} {it : M (List D)} {g : D → En → Option En} {t : M Bool} {x : M Vl} (hc : X.calm = true) (hN : X.N.Nodup) (hi : DI X W tg iter it Y) (ok : BlkOk X.N X.env.scope scope own)
    (hg : ∀ (s : Shared) (H : Hp) (C : Addr) (cl : List (Str × Addr)) (fp : List Addr), DG (X.blk s H scope (compEnvC scope cl C X.env) fp) ts tg g Y) (ht : ∀ (s : Shared) (H : Hp) (C : Addr) (cl : List (Str × Addr)) (fp : List Addr), DTs (X.blk s H scope (compEnvC scope cl C X.env) fp) ifs t)
    (he : ∀ (s : Shared) (H : Hp) (C : Addr) (cl : List (Str × Addr)) (fp : List Addr), DE (X.blk s H scope (compEnvC scope cl C X.env) fp) W0 elt x) (hts : ∀ i ∈ ts, i ∈ own.map (·.2) := by decide) (hy : X.N[i]? = some y := by rfl) (hyl : X.env.scope.names.lookup y = some .local := by rfl)
    (hsw : swapsWith (.ListComp elt [⟨tg, iter, ifs, 0⟩] scope pos) (some (.Name y py)) spos.line X.env = pure true := by rfl) (hB : ∀ p ∈ B, p.1 ≠ i := by simp) (hs : ∀ x, foldedSetIterable iter X.env x = pure x := by intro _; rfl) :
    DS X B W (.Assign [.Name y py] (.ListComp elt [⟨tg, iter, ifs, 0⟩] scope pos) spos) (sSet i (eCompO (own.map (·.2)) it g t x)) :=
  ⟨PSm (ps_setLc (g := TGd X.K ts g Y) (tt := TR X.K X.mg W0 RB t) (te := TR X.K X.mg W0 (repV X.K) x) hc hN hy hyl hsw hi.p ok (fun s H C cl fp => (hg s H C cl fp).p) (fun s H C cl fp => (ht s H C cl fp).p) (fun s H C cl fp => (he s H C cl fp).p) hs) fun D σ H h => comp_trO hts (set_tr hB h)⟩
end
end Fx
end

section
set_option Elab.async false
set_option linter.all false
set_option maxRecDepth 100000
set_option maxHeartbeats 4000000
/-! Ws: sorted of whole numbers, out of lists and tuples. -/
namespace Fx
open PySem PySem.Spec PyProof.Rows L2 PySem.W PySem.Calls
section
variable {prog : Program} {w : World} {A : Around} {E : Value → Shared → Prop} {s : Shared}
theorem collect_tup {l : Addr} {vs : List Value} {Q : List Value → Shared → Prop} (hl : IsTup s.heap l vs.toArray)
    (h : Q vs { s with heap := (s.heap.push (seqObj "list" #[] 0)).update s.heap.objs.size (Obj.mapSeq (· ++ vs.toArray)) }) (hsz : vs.length ≤ sizeLine) :
    wpAny (model prog w) A (collect (.ref l)) Q E s := by
  obtain ⟨o, ho, hc, n, hd⟩ := id hl
  unfold collect
  refine wpAny_bind (wpAny_runValue (codeAny_builtin entry_proto_collect' ?_))
  show wpAny _ _ (do again (.builtin "list.__iadd__" ⟨[← newList [], .ref l], []⟩)) _ _ s
  refine wpAny_bind (wpAny_newList (wpAny_pure ⟨Code.quiet_builtin _ (by decide +kernel), codeAny_builtin entry_list_iadd' ?_⟩))
  show wpAny _ _ (Builtin.List.listExtendWith (.ref s.heap.objs.size) (.ref l) (.ref s.heap.objs.size)) _ _ { s with heap := s.heap.push (seqObj "list" #[] 0) }
  unfold Builtin.List.listExtendWith
  have ho' : (s.heap.push (seqObj "list" #[] 0)).get? l = some o := Heap.get?_push_of_some _ ho
  refine wpAny_bind (wpAny_typeOf (T := "tuple") ⟨o, ho', hc⟩ ?_)
  have ht : (Value.type "tuple" == Value.type "tuple") = true := by rfl
  rw [if_pos (by rw [ht]; simp)]
  refine wpAny_bind (listItems_at ho' hd ?_)
  refine wpAny_bind (listItems_at (xs := #[]) (n := 0) (Heap.get?_push_size _ rfl) rfl ?_)
  rw [if_neg (by simp)]
  refine wpAny_bind (listUpdate_at (xs := #[]) (n := 0) (Heap.get?_push_size _ rfl) rfl ?_ (Nat.zero_le _) (by show (#[] ++ vs.toArray).size ≤ sizeLine + 1; simp only [Array.size_append, List.size_toArray, List.length_nil]; omega))
  refine wpAny_pure ?_
  show wpAny (model prog w) A (do
      let o ← load s.heap.objs.size
      match o.data with
      | .seq xs _ => pure xs.toList
      | _ => unsupported "internal:collect") Q E { s with heap := (s.heap.push (seqObj "list" #[] 0)).update s.heap.objs.size (Obj.mapSeq (· ++ vs.toArray)) }
  refine wpAny_bind (wpAny_load (get?_update_seq (Heap.get?_push_size _ rfl) _) ?_)
  show wpAny _ _ (pure ((#[] : Array Value) ++ vs.toArray).toList) Q E _
  rw [show ((#[] : Array Value) ++ vs.toArray).toList = vs by simp]
  exact wpAny_pure h
theorem sorted_of_tup {l : Addr} {vs : List Value} {Q : Value → Shared → Prop} (hl : IsTup s.heap l vs.toArray) (hL : vs.length ≤ sizeLine)
    (body : ∀ E' : Value → Shared → Prop, wpAny (model prog w) A.in1.in1 (Builtin.«list.sort» ⟨[.ref (s.heap.objs.size + 1)], []⟩) (fun f s' => f = .done (.ret .none) ∧ Q (.ref (s.heap.objs.size + 1)) s') E' { s with heap := copyHeap s.heap vs }) :
    wpAny (model prog w) A (call (.builtin "sorted") [.ref l]) Q E s := by
  refine call_function_entry_kw kind_sorted plain_sorted entry_sorted (args_sorted1 _) ?_
  unfold Builtin.«sorted»
  refine wpAny_bind (m := checkCount "sorted" 1 1 _) (wpAny_pure ?_)
  refine wpAny_bind (collect_tup hl ?_ hL)
  refine wpAny_bind (wpAny_newList ?_ hL)
  have hsz : ((s.heap.push (seqObj "list" #[] 0)).update s.heap.objs.size (Obj.mapSeq (· ++ vs.toArray))).objs.size = s.heap.objs.size + 1 := by
    rw [Heap.size_update, size_push']
  show wpAny _ _ _ _ _ { s with heap := copyHeap s.heap vs }
  rw [hsz]
  refine wpAny_bind (wpAny_holding (wpAny_call_entry_kw slot_list_sort ⟨_, copyHeap_at s.heap vs, rfl⟩ entry_list_sort ?body (args_list_sort _)))
  case body =>
    show wpAny (model prog w) A.in1.in1 (Builtin.«list.sort» ⟨[.ref (s.heap.objs.size + 1)], []⟩) _ _ _
    refine wpAny_mono (body _) (fun f s' hf => ?_) fun _ _ e => e
    obtain ⟨rfl, hq⟩ := hf
    exact ⟨_, rfl, wpAny_pure ⟨_, rfl, hq⟩⟩
theorem sorted_data_tup {β : Type} {vs : List Value} {bs : List β} {enc : β → PyData} {R : Value → β → Prop} {l : Addr} {Q : Value → Shared → Prop} (hl : IsTup s.heap l vs.toArray) (e : EachIs R vs bs) (er : EachIs (fun v b => ∃ as, Reads s.heap v (enc b) as) vs bs) (hal : AllAlike (bs.map enc)) (hk : Sortable (bs.map enc)) (hL : bs.length ≤ sizeLine)
    (hu : ∀ b, b ∈ bs → A.units + 2 + (enc b).depth < cLine) (h : ∀ out, out.length = bs.length → EachIs R out (bs.mergeSort (dataLe false enc)) → Q (.ref (s.heap.objs.size + 1)) { s with heap := sortedAll s.heap vs (List.toArray out) }) :
    wpAny (model prog w) A (call (.builtin "sorted") [.ref l]) Q E s := by
  have er' : EachIs (fun v b => ∃ as, Reads (sortingHeap (copyHeap s.heap vs) (s.heap.objs.size + 1) vs) v (enc b) as) vs bs := er.mono fun _ _ ⟨as, r⟩ => ⟨as, PyProof.Rows.Reads.keeps (fun _ _ => sorting_copy_old) r⟩
  have hL' : vs.length ≤ sizeLine := by rw [e.length]; exact hL
  refine sorted_of_tup hl hL' fun _ => list_sort_vals (κ := dataKind (sortingHeap (copyHeap s.heap vs) (s.heap.objs.size + 1) vs) (bs.map enc)) (s := { s with heap := copyHeap s.heap vs }) (copyHeap_at s.heap vs) (SortsAt.data (s := { s with heap := sortingHeap (copyHeap s.heap vs) (s.heap.objs.size + 1) vs }) (each_map (R := fun v d => ∃ as, Reads (sortingHeap (copyHeap s.heap vs) (s.heap.objs.size + 1) vs) v d as) enc er') hal hk (bound_map hu)) hL' ⟨rfl, ?_⟩
  exact h _ (by rw [sortVals_length false rfl]; exact e.length) (sortVals_data false e er' hal)
end
/-! ### in the layer's frame: whole numbers -/
def rSortI (K : Frag) : List V → Hp → VK → Prop := fun vs H Q => ∃ (a : Addr) (ns : List Int), vs = [V.ref a] ∧ (SqL K H a (ns.map V.int) ∨ SqT K H a (ns.map V.int)) ∧
  ∀ p, H p = none → Q (.ref p) (upd H p (.lst ((ns.mergeSort fun a b => decide (a ≤ b)).map V.int)))
theorem each_ints {h : Heap} : ∀ {ns : List Int} {us : List Value}, Vals (ns.map V.int) us → EachIs (fun v i => ∃ t, v = .int i t) us ns ∧ EachIs (fun v i => ∃ as, Reads h v (PyData.int i) as) us ns
  | [], _, r => by cases r; exact ⟨.nil, .nil⟩
  | n :: ns, _, r => by
    cases r with
    | cons r1 r2 =>
      obtain ⟨t, rfl⟩ := r1
      exact ⟨.cons ⟨t, rfl⟩ (each_ints (h := h) r2).1, .cons ⟨_, .int _ _⟩ (each_ints (h := h) r2).2⟩
theorem each_vals : ∀ {ns : List Int} {us : List Value}, EachIs (fun v i => ∃ t, v = .int i t) us ns → Vals (ns.map V.int) us
  | _, _, .nil => .nil
  | _, _, .cons ⟨t, h⟩ r => .cons ⟨t, h⟩ (each_vals r)
theorem cr_sortI {X : Cx} (hu : X.A.units + 66 < cLine) : CallR X (.builtin "sorted") (rSortI X.K) := by
  intro pins s σ H vs us Q I r h
  obtain ⟨a, ns, rfl, hs, q⟩ := h
  have key : ∀ (its : List Value), Vals (ns.map V.int) its → (ns.map V.int).length ≤ sizeLine → ∀ out : List Value, out.length = ns.length → EachIs (fun v i => ∃ t, v = .int i t) out (ns.mergeSort (dataLe false PyData.int)) →
      EP X pins σ Q (.ref (s.heap.objs.size + 1)) { s with heap := sortedAll s.heap its (List.toArray out) } := fun its rv hz out hl e => by
    obtain ⟨ep, he'⟩ := PyProof.Rows.sortedAll_at s.heap its (List.toArray out)
    have hd : dataLe false PyData.int = fun a b => decide (a ≤ b) := dataLe_int fun i : Int => i
    rw [hd] at e
    have hv := each_vals e
    have hlen : ((ns.mergeSort fun a b => decide (a ≤ b)).map V.int).length ≤ sizeLine := by rw [List.length_map, List.length_mergeSort]; simpa using hz
    exact ⟨.ref _, upd H (s.heap.objs.size + 1) (.lst ((ns.mergeSort fun a b => decide (a ≤ b)).map V.int)), I.laid (t' := s.toks) (fun _ _ => PyProof.Rows.sortedAll_old) (Nat.le_succ _) ⟨hlen, out, ep, hv, he'⟩, rfl, q _ (I.hok.fresh (Nat.le_succ _))⟩
  have hal : AllAlike (ns.map PyData.int) := AllAlike.of fun _ _ => by simp [alike]
  have hk : Sortable (ns.map PyData.int) := Sortable.others fun _ => ⟨by simp, fun _ => by simp⟩
  have hb : ∀ b : Int, b ∈ ns → X.A.units + 2 + (PyData.int b).depth < cLine := fun b _ => by simp only [PyData.depth]; omega
  rcases hs with hs | hs
  · obtain ⟨its, rv, hl, hz⟩ := I.list hs
    rw [Vals.ref1 r]
    exact sorted_data hl.isList (each_ints (h := s.heap) rv).1 (each_ints rv).2 hal hk (by simpa using hz) hb (key its rv hz)
  · obtain ⟨its, rv, hl, hz⟩ := I.tuple hs
    rw [Vals.ref1 r]
    exact sorted_data_tup hl (each_ints (h := s.heap) rv).1 (each_ints rv).2 hal hk (by simpa using hz) hb (key its rv hz)
end Fx
end

section
set_option Elab.async false
set_option linter.all false
set_option maxRecDepth 100000
set_option maxHeartbeats 4000000
/-! Wn: chains, is, lists of ranges, sorted. -/
namespace Fx
open PySem PySem.Spec PyProof.Rows L2
section
variable {X : Cx} {W : WX} {a b c : Expr} {pos : Pos} {m n o : M Vl}
def rIsAny : R2 := fun x y H Q => (y = .non ∧ Q (.bl (decide (x = .non))) H) ∨ rIsB x y H Q
def rNotAny : R2 := fun x y H Q => (y = .non ∧ Q (.bl (!decide (x = .non))) H) ∨ rNotB x y H Q
theorem op_is : OpR X (compareOp .Is) rIsAny := fun pins s σ H x y v u Q I rx ry h => h.elim (fun h => op_isN pins s σ H x y v u Q I rx ry h) (fun h => op_isBl pins s σ H x y v u Q I rx ry h)
theorem op_not : OpR X (compareOp .IsNot) rNotAny := fun pins s σ H x y v u Q I rx ry h => h.elim (fun h => op_notN pins s σ H x y v u Q I rx ry h) (fun h => op_notBl pins s σ H x y v u Q I rx ry h)
theorem isNon_rep {K : PySem.W.Frag} {S : SP'} {H : Hp} {x : Vl} {d : D} {fx : List Addr} {v : V} (e : x.d = some d) (h : repV K S H x fx v) : decide (v = .non) = d.isNon := by
  cases x with
  | v d' =>
    cases e
    have h := h.2
    cases d <;> unfold rep at h
    · subst h; rfl
    · subst h; rfl
    · subst h; rfl
    · subst h; rfl
    · obtain ⟨a, vs, rfl, _⟩ := h; rfl
    · obtain ⟨a, vs, rfl, _⟩ := h; rfl
  | o l => cases e; obtain ⟨a, vs, rfl, _⟩ := h; rfl
  | oo l => cases e; obtain ⟨a, vs, as, rfl, _⟩ := h; rfl
  | dc _ => cases e
  | rg _ _ => cases e
theorem rep_v {K : PySem.W.Frag} {S : SP'} {H : Hp} {d : D} {fx : List Addr} {v : V} (h : repV K S H (.v d) fx v) : rep K S H d v := h.2
theorem ok_is {K : PySem.W.Frag} : Op2 K (repV K) (repV K) oIs rIsAny := by
  intro S H x y z fx fy u v Q e dom sep rx ry h
  unfold oIs at e
  split at e
  · have hy := rep_v ry
    unfold rep at hy
    unfold oIsN at e
    cases hx : x.d with
    | none => rw [hx] at e; cases e
    | some d =>
      rw [hx] at e
      cases e
      exact .inl ⟨hy, by rw [isNon_rep hx rx]; exact pure_end (rep_bl _) h⟩
  · rename_i p q
    cases e
    have hx := rep_v rx
    have hy := rep_v ry
    unfold rep at hx hy
    exact .inr ⟨p, q, hx, hy, pure_end (rep_bl _) h⟩
  · cases e
theorem ok_not {K : PySem.W.Frag} : Op2 K (repV K) (repV K) oIsNot rNotAny := by
  intro S H x y z fx fy u v Q e dom sep rx ry h
  unfold oIsNot at e
  split at e
  · have hy := rep_v ry
    unfold rep at hy
    unfold oNotN at e
    cases hx : x.d with
    | none => rw [hx] at e; cases e
    | some d =>
      rw [hx] at e
      cases e
      exact .inl ⟨hy, by rw [isNon_rep hx rx]; exact pure_end (rep_bl _) h⟩
  · rename_i p q
    cases e
    have hx := rep_v rx
    have hy := rep_v ry
    unfold rep at hx hy
    exact .inr ⟨p, q, hx, hy, pure_end (rep_bl _) h⟩
  · cases e
theorem chain_tr {f g : Vl → Vl → Option Vl} {r r' : R2} (ok : Op2 X.K (repV X.K) (repV X.K) f r) (ok' : Op2 X.K (repV X.K) (repV X.K) g r') {σ : L2.St} {H : Hp} {Q : VK} (h : TR X.K X.mg W (repV X.K) (eChain f g m n o) σ H Q) :
    tChain r r' (TR X.K X.mg W (repV X.K) m) (TR X.K X.mg W (repV X.K) n) (TR X.K X.mg W (repV X.K) o) σ H Q := by
  refine TR.bind (R' := repV X.K) (k := fun x e => (n e).then fun y e => match y, f x y with
    | .v _, some (.v (.bl true)) => (o e).then fun z e => lift (g y z) e
    | .v _, some (.v (.bl false)) => .ok (.v (.bl false)) e
    | _, _ => .bad) (Q := Q) h fun S e fp S1 H1 e1 fp1 fx x u wd ext wd1 sep1 rx p => ?_
  refine TR.next (R' := repV X.K) (k := fun y e => match y, f x y with
    | .v _, some (.v (.bl true)) => (o e).then fun z e => lift (g y z) e
    | .v _, some (.v (.bl false)) => .ok (.v (.bl false)) e
    | _, _ => .bad) (Q := Q) wd1 ext sep1 p fun S2 H2 e2 fp2 fy y v ext2 st keep wd2 sep2 ry p2 => ?_
  have sxy : Sep S2 H2 (fx ++ fy) := by
    have h := sep2
    rw [← List.append_assoc] at h
    exact h.app1
  have ext2' : Ext S H fp S2 H2 fp2 := ext2.drop.drop
  split at p2
  · rename_i d hf
    refine ok S2 H2 x _ _ fx fy u v _ hf wd2.dom sxy (wt_rep _ _ _ _ _ _ _ _ st keep rx) ry fun H3 fz w k fr sz rz => ?_
    have hz := rep_v rz
    unfold rep at hz
    refine ⟨true, hz, ?_⟩
    rw [if_pos rfl]
    have ext3 : Ext S H fp S2 H3 fp2 := (ext2'.grow k fr).drop
    have wd3 := wd2.grow k
    have ry3 : repV X.K S2 H3 (.v d) fy v := ry.stb (Stb.grow k) fun a q => by rw [ry.1] at q; cases q
    refine ⟨S2, e2, fp2, wd3, ?_⟩
    cases ho : o e2 with
    | bad => simp only [ho, Rs.then] at p2; exact p2
    | ex x' e3 => simp only [ho, Rs.then] at p2; exact exW.more p2 ext3
    | ok z e3 =>
      simp only [ho, Rs.then] at p2
      cases hg : g (.v d) z with
      | none => rw [hg] at p2; exact p2.elim
      | some zz =>
        rw [hg] at p2
        intro S4 H4 fp4 fz4 w4 ext4 wd4 sep4 rz4
        have ry4 : repV X.K S4 H4 (.v d) [] v := by
          have := ry3.1
          subst this
          exact ry3.stb (ext4.stb wd3.sep) fun _ q => by cases q
        refine ok' S4 H4 (.v d) z zz [] fz4 v w4 Q hg wd4.dom (by simpa using sep4.app1) ry4 rz4 fun H5 f5 w5 k5 fr5 sz5 rz5 => ?_
        exact p2 S4 H5 fp4 f5 w5 (((ext3.trans ext4.drop).grow k5 fr5)) (wd4.grow k5) (wd4.sep.grow sz5 k5 fr5) rz5
  · rename_i d hf
    refine ok S2 H2 x _ _ fx fy u v _ hf wd2.dom sxy (wt_rep _ _ _ _ _ _ _ _ st keep rx) ry fun H3 fz w k fr sz rz => ?_
    have hz := rep_v rz
    unfold rep at hz
    refine ⟨false, hz, ?_⟩
    rw [if_neg Bool.false_ne_true]
    exact p2 S2 H3 fp2 [] _ (ext2'.grow k fr).drop (wd2.grow k) (wd2.grow k).sep ⟨rfl, rep_bl _⟩
  · exact p2.elim
theorem de_chain {op op' : CmpOp} {f g : Vl → Vl → Option Vl} {r r' : R2} (ho : OpR X (compareOp op) r) (ho' : OpR X (compareOp op') r') (ok : Op2 X.K (repV X.K) (repV X.K) f r) (ok' : Op2 X.K (repV X.K) (repV X.K) g r') (ha : DE X W a m) (hb : DE X W b n) (hc : DE X W c o)
    (hm : lastMarks [op, op'] [b, c] = false := by with_unfolding_all rfl) : DE X W (.Compare a [op, op'] [b, c] pos) (eChain f g m n o) := ⟨PEm (pe_chain ho ho' ha.p hb.p hc.p hm) fun σ H Q h => chain_tr ok ok' h⟩
theorem dt_chain {op op' : CmpOp} {f g : Vl → Vl → Option Vl} {r r' : R2} (ho : OpR X (compareOp op) r) (ho' : OpR X (compareOp op') r') (ok : Op2 X.K (repV X.K) (repV X.K) f r) (ok' : Op2 X.K (repV X.K) (repV X.K) g r') (ha : DE X W a m) (hb : DE X W b n) (hc : DE X W c o)
    (hm : lastMarks [op, op'] [b, c] = false := by with_unfolding_all rfl) : DT X W (.Compare a [op, op'] [b, c] pos) (Fx.tB (eChain f g m n o)) := ⟨PTm (pt_chain ho ho' ha.p hb.p hc.p hm) fun σ H Q q => ttest (fun σ H Q h => chain_tr ok ok' h) q⟩
theorem rg_reps {K : PySem.W.Frag} {S : SP'} {H : Hp} (lo : Int) : ∀ n : Nat, reps K S H (rng lo n) ((List.range n).map fun i => V.int (lo + (i : Nat)))
  | 0 => by unfold rng; simp [reps]
  | n + 1 => by
    have h := rg_reps (K := K) (S := S) (H := H) lo n
    unfold rng at h ⊢
    rw [List.range_succ, List.map_append, List.map_append]
    exact h.app (reps.cons (rep_int _) reps.nil)
theorem de_lr1 {p p2 pos2 : Pos} (hc : X.calm = true) (ha : DE X W a m) (hml : X.mg "list" = none) (hmr : X.mg "range" = none) (hgl : Gl X "list" := by rfl) (hgr : Gl X "range" := by rfl) (na : starEach [a] X.env = (false, eval a X.env) :: starEach [] X.env := by rfl)
    (nb : starEach [.Call (.Name "range" p) [a] [] pos] X.env = (false, eval (.Call (.Name "range" p) [a] [] pos) X.env) :: starEach [] X.env := by rfl) : DE X W (.Call (.Name "list" p2) [.Call (.Name "range" p) [a] [] pos] [] pos2) (eLr1 m) := by
  refine ⟨PEm (pe_listRg hc hgl hml (prg_1 hgr hmr ha.p na) nb) fun σ H Q h => ?_⟩
  refine TR.bind (R' := repV X.K) (k := kLr1) (Q := Q) h fun S e fp S1 H1 e1 fp1 fx x v wd ext wd1 sep1 rx p => ?_
  unfold kLr1 at p
  split at p
  · rename_i j
    split at p
    · rename_i hj
      have hx := rep_v rx
      unfold rep at hx
      unfold rgOk lim at hj
      simp only [Bool.and_eq_true, decide_eq_true_eq] at hj
      obtain ⟨⟨h12, h34⟩, h5⟩ := hj
      obtain ⟨h1, h2⟩ := small_of h12
      obtain ⟨h3, h4⟩ := small_of h34
      refine ⟨j, hx, ⟨by omega, by omega, by omega, by omega, by omega⟩, fun q hq => ?_⟩
      have hr := rg_reps (K := X.K) (S := S1) (H := H1) 0 j.toNat
      obtain ⟨k, fr, sp, rt⟩ := fresh_lst hr hq wd1.dom
      have e0 : rgV 0 j = (List.range j.toNat).map fun i => V.int (0 + (i : Nat)) := by unfold rgV; rw [show (j - 0).toNat = j.toNat by omega]
      rw [e0]
      exact p S1 _ fp1 [q] _ (ext.drop.grow k fr) (wd1.grow k) (wd1.sep.grow sp k fr) rt
    · exact p.elim
  · exact p.elim
theorem ok_sortI {K : PySem.W.Frag} : Op1 K (RP K) oSortI (fun x H Q => rSortI K [x] H Q) := by
  intro S H x z fx u Q e dom sep rx h
  unfold oSortI at e
  cases q : x.items with
  | none => rw [q] at e; cases e
  | some l =>
    rw [q, Option.bind_some] at e
    cases q2 : D.ints l with
    | none => rw [q2] at e; cases e
    | some ns =>
      rw [q2] at e
      cases e
      obtain ⟨a, vs, h1, h2, h3⟩ := rx.items q
      have key : ∀ {l : List D} {ns : List Int} {vs : List V}, D.ints l = some ns → reps K S H l vs → vs = ns.map V.int := by
        intro l
        induction l with
        | nil => intro ns vs e r; simp [D.ints] at e; subst e; unfold reps at r; exact r
        | cons d l ih =>
          intro ns vs e r
          unfold reps at r
          obtain ⟨v, r', rfl, hv, hr⟩ := r
          cases d <;> simp only [D.ints] at e <;> try cases e
          rename_i i
          cases hl : D.ints l with
          | none => rw [hl] at e; cases e
          | some ms =>
            rw [hl] at e
            cases e
            unfold rep at hv
            rw [hv, ih hl hr]
            rfl
      have ev := key q2 h3
      subst ev
      refine ⟨a, ns, by rw [h1], rd_sq h2, fun p hp => ?_⟩
      have hr : ∀ ms : List Int, reps K S H (ms.map .int) (ms.map V.int) := fun ms => by
        induction ms with
        | nil => exact reps.nil
        | cons i ms ih => exact reps.cons (rep_int i) ih
      obtain ⟨k, fr, sp, rt⟩ := fresh_lst (hr _) hp dom
      exact h _ [p] _ k fr sp rt
theorem de_sortI {p : Pos} (hu : X.A.units + 66 < cLine) (ha : DP X W a m) (hm : X.mg "sorted" = none) (hg : Gl X "sorted" := by rfl)
    (he : starEach (a :: []) X.env = (false, eval a X.env) :: starEach [] X.env := by rfl) (hpl : (backTo pos (starEach [] X.env)).any (·.1) = false := by rfl) : DE X W (.Call (.Name "sorted" p) [a] [] pos) (e1 oSortI m) := de_b1 (cr_sortI hu) ok_sortI ha hm (by decide +kernel) hg (by decide) (by decide) he hpl
end
end Fx
end

section
set_option Elab.async false
set_option linter.all false
set_option maxRecDepth 100000
set_option maxHeartbeats 4000000
/-! Wq: the law's own def. -/
namespace Fx
open PySem PySem.Spec PyProof.Rows L2
def spLaw (K : PySem.W.Frag) : Sp := fun vs H Q _ => ∃ (a : Addr) (ns : List Int), vs = [.ref a] ∧ SqL K H a (ns.map V.int) ∧ ns.length ≤ 63 ∧ Only H ∧ ∀ H', Q (.bl true) H'
section
variable {P : Program} {w : World} {K : PySem.W.Frag} {mg : Str → Option Value} {base : Heap}
theorem ints_reps {K : PySem.W.Frag} {S : SP'} {H : Hp} : ∀ ns : List Int, reps K S H (ns.map .int) (ns.map V.int)
  | [] => reps.nil
  | i :: ns => reps.cons (rep_int i) (ints_reps ns)
theorem law_def {x qual : Str} {st : Stmt} {f : Addr} {fd : FuncData} {N : List Str} {k : Nat} {c : C} (Fn : Fun K x qual st f fd) (sc : FnScope N ["script"] (defScope st))
    (hb : ∀ (cdv : Value) (A : Around) (outer : List Env) (s : Shared) (H : Hp) (E : XK), Room k (A.deeper (envOfC qual (defScope st) s.heap.objs.size f cdv)) → DSs (cxOf CX0 P w K mg base N qual (defScope st) f cdv A outer s H E).nox [] W0 (defBody st) c)
    (law : ∀ ns : List Int, ns.length ≤ 63 → runDef N.length [] c [.v (.lst (ns.map .int))] = .ok (.v (.bl true)) []) : FnOk P w K mg base CX0 (k + 1) f fd ["script"] (spLaw K) := by
  refine Fn.ok sc (fun vs H Q E h => ?_) (fun cdv A outer s H vs Q E hr h => ?_)
  · obtain ⟨a, ns, rfl, _⟩ := h
    rfl
  · obtain ⟨a, ns, rfl, hS, hlen, ho, q⟩ := h
    refine ⟨_, (hb cdv A outer s H E hr).p, ?_⟩
    have hl := law ns hlen
    unfold runDef at hl
    have hLs : Ls K (fun _ => False) H a (ns.map V.int) := Ls.of hS fun xs e => by
      rcases ho a with z | ⟨o, ys, z⟩ <;> rw [z] at e <;> cases e
    have env1 : envR K (fun _ => False) H [some (.v (.lst (ns.map .int)))] [] [some (.ref a)] := by
      unfold envR
      exact ⟨_, [], [], [], rfl, rfl, ⟨rfl, by unfold rep; exact ⟨a, _, rfl, hLs, ints_reps ns⟩⟩, by unfold envR; exact ⟨rfl, rfl⟩⟩
    refine ⟨fun _ => False, _, [], ⟨env1.pad (N.length - 1), Sep.nil, fun _ h => h.elim⟩, (fun p hp => nomatch hp), ?_⟩
    unfold sPost
    have e0 : ([Vl.v (.lst (ns.map .int))].map some ++ List.replicate (N.length - [Vl.v (.lst (ns.map .int))].length) none : En) = [some (.v (.lst (ns.map .int)))] ++ List.replicate (N.length - 1) none := rfl
    rw [e0] at hl
    cases hc : c ([some (.v (.lst (ns.map .int)))] ++ List.replicate (N.length - 1) none) with
    | nxt e => rw [hc] at hl; simp [outs] at hl
    | ret y e =>
      rw [hc] at hl; simp [outs] at hl
      subst hl
      intro S' H' fp' fx σ' v _ _ _ _ r
      have := rep_v r
      unfold rep at this
      rw [this]
      exact q H'
    | brk e => rw [hc] at hl; simp at hl
    | cnt e => rw [hc] at hl; simp at hl
    | ex x e => rw [hc] at hl; simp at hl
    | bad => rw [hc] at hl; simp at hl
end
end Fx
end

section
set_option Elab.async false
set_option linter.all false
set_option maxRecDepth 100000
set_option maxHeartbeats 4000000
/-! Wr: short words for what gen.py prints. -/
namespace Fx
open PySem PySem.Spec PyProof.Rows L2
theorem bb_tuple : bootBuiltins "tuple" = some (.type "tuple") := by decide +kernel
theorem bb_list : bootBuiltins "list" = some (.type "list") := by decide +kernel
theorem bb_int : bootBuiltins "int" = some (.type "int") := by decide +kernel
theorem bb_bool : bootBuiltins "bool" = some (.type "bool") := by decide +kernel
theorem bb_str : bootBuiltins "str" = some (.type "str") := by decide +kernel
theorem bb_abs : bootBuiltins "abs" = some (.builtin "abs") := by decide +kernel
theorem bb_any : bootBuiltins "any" = some (.builtin "any") := by decide +kernel
theorem bb_all : bootBuiltins "all" = some (.builtin "all") := by decide +kernel
theorem bb_sum : bootBuiltins "sum" = some (.builtin "sum") := by decide +kernel
theorem bb_max : bootBuiltins "max" = some (.builtin "max") := by decide +kernel
theorem bb_min : bootBuiltins "min" = some (.builtin "min") := by decide +kernel
theorem bb_isinstance : bootBuiltins "isinstance" = some (.builtin "isinstance") := by decide +kernel
/-- a def of the text -/
structure Df (K : PySem.W.Frag) (mg : Str → Option Value) (x : Str) (ps : List Str) (st : Stmt) : Prop where
  ex : ∃ f fd, Fun K x x st f fd ∧ Binds K fd ps [] ∧ mg x = some (.ref f)
theorem one_B {p : Nat} {B : List (Nat × Addr)} (h : B.map (·.1) = [p]) : ∃ a, B = [(p, a)] := by
  match B, h with
  | [(q, a)], h => simp at h; subst h; exact ⟨a, rfl⟩
section
variable {P : Program} {w : World} {K : PySem.W.Frag} {mg : Str → Option Value} {base : Heap} {N : List Str} {qual : Str} {scope : Scope} {f : Addr} {cdv : Value} {A : Around} {outer : List Env} {s : Shared} {H : Hp} {E : XK}
theorem tk_of : Takes (cxOf (L2.CX P w) P w K mg base N qual scope f cdv A outer s H E) (fun cls d _ H => E cls d H) := takes_of rfl rfl rfl rfl
theorem hp_of : PassesOwn (model P w) (cxOf (L2.CX P w) P w K mg base N qual scope f cdv A outer s H E).A (cxOf (L2.CX P w) P w K mg base N qual scope f cdv A outer s H E).env (cxOf (L2.CX P w) P w K mg base N qual scope f cdv A outer s H E).xe := passes_of rfl
end
section
variable {X : Cx} {W : WX} {a b c : Expr} {pos : Pos} {m n o : M Vl} {B : List (Nat × Addr)}
theorem dss_bad {st : List Stmt} : DSs X B W st (fun _ => .bad) := ⟨⟨fun pins s σ H D I h => by obtain ⟨S, e, fp, _, _, h⟩ := h; exact h.elim⟩⟩
theorem de_gi {x : Str} {i : Int} (hm : ∃ t, X.mg x = some (.int i t)) (hg : Gl X x := by rfl) (hd : (x == ("__debug__" : Str)) = false := by decide) : DE X W (.Name x pos) (eC (.int i)) := by
  obtain ⟨t, hm⟩ := hm
  exact de_glob hg hm (v := .int i) ⟨t, rfl⟩ (fun S H => rep_int i) hd
theorem ds_raiseK {cn : String} {a : Expr} {p pos pos2 : Pos} {k : Nat} (hc : X.calm = true) (T : Xk X.prog X.K X.mg cn) (gs : X.mg "super" = none) (hr : Room k X.A) (tk : Takes X W) (ha : DE X W a m) (hg : Gl X (Str.ofString cn) := by rfl) (hdb : ((Str.ofString cn) == ("__debug__" : Str)) = false := by decide)
    (he : starEach (a :: []) X.env = (false, eval a X.env) :: starEach [] X.env := by rfl) (hpl : (backTo pos (starEach [] X.env)).any (·.1) = false := by rfl) :
    DS X B W (.Raise (some (.Call (.Name (Str.ofString cn) p) [a] [] pos)) none pos2) (sRaise cn m) := by
  obtain ⟨C, fI, qual, h1, h2, h3⟩ := T.ex
  exact ds_raise hc h2 h1 gs hr tk ha hg hdb he hpl
end
end Fx
end

section
set_option Elab.async false
set_option linter.all false
set_option maxRecDepth 100000
set_option maxHeartbeats 4000000
/-! Wt: x.index(y), x.count(y) of lists and tuples. -/
namespace Fx
open PySem PySem.Spec PyProof.Rows L2
theorem pys_find (d : D) : ∀ l : List D, (D.pys l).findIdx? (fun y => PyData.eqv y d.py) = l.findIdx? fun z => D.eq z d
  | [] => rfl
  | a :: l => by
    simp only [D.pys, List.findIdx?_cons, py_eq, pys_find d l]
theorem pys_count (d : D) : ∀ l : List D, (D.pys l).countP (fun y => PyData.eqv y d.py) = l.countP fun z => D.eq z d
  | [] => rfl
  | a :: l => by
    simp only [D.pys, List.countP_cons, py_eq, pys_count d l]
section
variable {X : Cx} {W : WX} {a b : Expr} {pos : Pos} {m n : M Vl}
def rSome (K : PySem.W.Frag) (tup : Bool) (f : List D → D → Option D) : V → List V → Hp → VK → Prop := fun x xs H Q => ∃ p vs l y d z, x = V.ref p ∧ xs = [y] ∧ (if tup then SqT K H p vs else SqL K H p vs) ∧ DpAll K H vs (D.pys l) ∧ Dp K H y d.py ∧ d.dep ≤ 60 ∧ f l d = some z ∧ ∀ w, (∀ S, rep K S H z w) → Q w H
theorem room60 {A : Around} {x d : Nat} (hu : A.units + 66 < cLine) (h : d ≤ 60) : A.units + 1 + min x d < cLine := by omega
theorem mt_ixT (hu : X.A.units + 66 < cLine) : MtR X "tuple.index" (rSome X.K true fIx) := by
  intro pins s σ H x xs v us Q I rx rxs hh
  obtain ⟨p, vs, l, y, d, z, rfl, rfl, hs, hl, hd, hz, hf, q⟩ := hh
  rw [if_pos rfl] at hs
  cases rx
  obtain ⟨u, rfl, ru⟩ := vals1 rxs
  obtain ⟨its, r, ⟨⟨cls, dd, data, sl⟩, ho, hc, n, hdt⟩, _⟩ := I.tuple hs
  simp only at hc hdt
  subst hc hdt
  obtain ⟨as, rs⟩ := Dp.readsAll I _ _ its hl r
  obtain ⟨bs, r1⟩ := Dp.reads I _ y u hd ru
  unfold fIx at hf
  obtain ⟨j, hj, rfl⟩ := Option.map_eq_some_iff.mp hf
  rw [← pys_find] at hj
  obtain ⟨h1, h2, h3⟩ := SeqAt.hit_at (vs := its.toArray) rs (pys_plain l) hj
  exact call_meets PySem.F.slot_tuple_index ⟨_, ho, rfl⟩ PySem.F.entry_tuple_index (PySem.F.args_tuple_index_2 _ _) (TI.tuple_indexAt p its.toArray n dd sl u (fun w => PyData.eqv (SeqAt.readOf s.heap w) d.py) j h1 h2 h3)
    ⟨ho, SeqAt.items_plain (vs := its.toArray) rs r1 (pys_plain l) (py_plain d) (room60 hu (by rw [py_dep]; exact hz)), ⟨.int (j : Nat), H, I.tok _, ⟨_, rfl⟩, q _ fun S => rep_int _⟩⟩
theorem mt_ixL (hu : X.A.units + 66 < cLine) : MtR X "list.index" (rSome X.K false fIx) := by
  intro pins s σ H x xs v us Q I rx rxs hh
  obtain ⟨p, vs, l, y, d, z, rfl, rfl, hs, hl, hd, hz, hf, q⟩ := hh
  rw [if_neg Bool.false_ne_true] at hs
  cases rx
  obtain ⟨u, rfl, ru⟩ := vals1 rxs
  obtain ⟨its, r, ⟨⟨cls, dd, data, sl⟩, n, ho, hc, hdn, hdt⟩, hlen⟩ := I.list hs
  simp only at hc hdt
  subst hc hdt
  obtain ⟨as, rs⟩ := Dp.readsAll I _ _ its hl r
  obtain ⟨bs, r1⟩ := Dp.reads I _ y u hd ru
  unfold fIx at hf
  obtain ⟨j, hj, rfl⟩ := Option.map_eq_some_iff.mp hf
  rw [← pys_find] at hj
  obtain ⟨h1, h2, h3⟩ := SeqAt.hit_at (vs := its.toArray) rs (pys_plain l) hj
  have hj2 : j < its.length := by simpa using h1
  have hsz := sizeLine_eq
  have hr := r.length
  exact call_meets PySem.F.slot_list_index ⟨_, ho, rfl⟩ PySem.F.entry_list_index (PySem.F.args_list_index_2 _ _) (SeqAt.list_indexAt p its.toArray n dd sl u (fun w => PyData.eqv (SeqAt.readOf s.heap w) d.py) j h1 (by omega) h2 h3)
    ⟨ho, SeqAt.items_plain (vs := its.toArray) rs r1 (pys_plain l) (py_plain d) (room60 hu (by rw [py_dep]; exact hz)), ⟨.int (j : Nat), H, I.tok _, ⟨_, rfl⟩, q _ fun S => rep_int _⟩⟩
theorem mt_ctL (hu : X.A.units + 66 < cLine) : MtR X "list.count" (rSome X.K false fCt) := by
  intro pins s σ H x xs v us Q I rx rxs hh
  obtain ⟨p, vs, l, y, d, z, rfl, rfl, hs, hl, hd, hz, hf, q⟩ := hh
  rw [if_neg Bool.false_ne_true] at hs
  cases rx
  obtain ⟨u, rfl, ru⟩ := vals1 rxs
  obtain ⟨its, r, pl, hlen⟩ := I.list hs
  obtain ⟨as, rs⟩ := Dp.readsAll I _ _ its hl r
  obtain ⟨bs, r1⟩ := Dp.reads I _ y u hd ru
  unfold fCt at hf
  cases hf
  refine SeqAt.count_list_data (vs := its.toArray) pl.isList rs r1 (pys_plain l) (py_plain d) (room60 hu (by rw [py_dep]; exact hz)) ⟨.int _, H, I.tok _, ⟨_, rfl⟩, ?_⟩
  rw [pys_count]
  exact q _ fun S => rep_int _
theorem mt_ctT (hu : X.A.units + 66 < cLine) : MtR X "tuple.count" (rSome X.K true fCt) := by
  intro pins s σ H x xs v us Q I rx rxs hh
  obtain ⟨p, vs, l, y, d, z, rfl, rfl, hs, hl, hd, hz, hf, q⟩ := hh
  rw [if_pos rfl] at hs
  cases rx
  obtain ⟨u, rfl, ru⟩ := vals1 rxs
  obtain ⟨its, r, ⟨o, e1, e2, n, e3⟩, _⟩ := I.tuple hs
  obtain ⟨as, rs⟩ := Dp.readsAll I _ _ its hl r
  obtain ⟨bs, r1⟩ := Dp.reads I _ y u hd ru
  unfold fCt at hf
  cases hf
  refine SeqAt.count_tuple_data (vs := its.toArray) ⟨o, e1, e2, n, e3⟩ rs r1 (pys_plain l) (py_plain d) (room60 hu (by rw [py_dep]; exact hz)) ⟨.int _, H, I.tok _, ⟨_, rfl⟩, ?_⟩
  rw [pys_count]
  exact q _ fun S => rep_int _
/-- x.m(y), x a tuple that is known to the object -/
theorem pe_bmT {o e : Expr} {es : List Expr} {to : TE} {t : TA} {name : Str} {apos cpos : Pos} {id : String} {r : V → List V → Hp → VK → Prop} (pa : PlainAttrs "tuple") (slot : Slot "tuple" name id) (hty : typeOf (.builtin id) = pure (.type "method_descriptor")) (hm : MtR X id r) (ho : PE X o to) (ha : PA X (e :: es) t)
    (hbase : attributeBase o name X.env (eval o X.env) = eval o X.env)
    (hfew : ((backTo cpos (starEach (e :: es) X.env)).all (fun x => !x.1) && (backToKw cpos (keywordEach [] X.env)).all (fun x => x.1.isSome) && decide ((e :: es).length + ([] : List Keyword).length + (if ([] : List Keyword).isEmpty then 0 else 1) < 30)) = true)
    (hline : (apos.endLine == cpos.line) = true) (hs : starEach (e :: es) X.env = (false, eval e X.env) :: starEach es X.env) (hplain : (backTo cpos (starEach es X.env)).any (·.1) = false) :
    PE X (.Call (.Attribute o name apos) (e :: es) [] cpos) (fun σ H Q => to σ H fun x H1 => (∃ p vs, x = .ref p ∧ ExT H1 p vs) ∧ t σ H1 fun xs H2 => r x xs H2 Q) := by
  refine ⟨fun pins s σ H Q I h => wpAny_Call_method_late hbase hfew hline rfl (thn (ho.run pins s σ H _ I h) fun v s1 ⟨x, H1, I1, r1, ty, q1⟩ => ?_)⟩
  obtain ⟨p, vs, rfl, ob, hob, hdn⟩ := ty
  cases r1
  obtain ⟨e1, _, its, _, o2, e2, e3, _⟩ := I1.hok p _ hob
  rw [e1] at e2
  cases e2
  refine ⟨"tuple", id, pa, slot, hty, ⟨_, e1, e3⟩, fun a ea => by cases ea; exact ⟨_, e1, hdn⟩, ?_⟩
  have hA := ha.run cpos pins s1 σ H1 _ I1 q1
  rw [hs] at hA ⊢
  exact Calls.callWith_builtin (by show (false || (backTo cpos (starEach es X.env)).any (·.1)) = false; rw [hplain] <;> rfl) (Calls.evalArgs_plain (thn hA fun us s2 ⟨ws, H2, I2, r2, q2⟩ => hm pins s2 σ H2 (.ref p) ws _ us Q I2 rfl r2 q2))
theorem met_fin {K : PySem.W.Frag} {mg : Str → Option Value} {f : List D → D → Option D} {S1 S2 : SP'} {S : SP'} {H H2 : Hp} {fp fp2 fy : List Addr} {σ : L2.St} {e2 : En} {l : List D} {y : Vl} {p : Addr} {vs : List V} {u : V} {Q : VK} {tp : Bool} (hq : if tp then SqT K H2 p vs else SqL K H2 p vs) (hr : reps K S2 H2 l vs)
    (ext2 : Ext S H fp S2 H2 (fy ++ fp2)) (wd2 : Wd K S2 H2 e2 fp2 σ) (sep2 : Sep S2 H2 (fy ++ fp2)) (ry : repV K S2 H2 y fy u)
    (p2 : (kMet f l y e2).post (fun y e' => ∀ S' H' fp' fy u, Ext S H fp S' H' (fy ++ fp') → Wd K S' H' e' fp' σ → Sep S' H' (fy ++ fp') → repV K S' H' y fy u → Q u H') (fun x e' => exW K mg W S H fp σ x e')) : rSome K tp f (.ref p) [u] H2 Q := by
  unfold kMet at p2
  cases hd : y.d with
  | none => rw [hd] at p2; exact p2.elim
  | some d =>
    rw [hd] at p2
    dsimp only at p2
    split at p2
    · rename_i hz
      cases hf : f l d with
      | none => rw [hf] at p2; exact p2.elim
      | some z =>
        rw [hf] at p2
        exact ⟨p, vs, l, u, d, z, rfl, rfl, hq, hr.dp, ry.rp.dp hd, hz, hf, fun w hw => p2 S2 H2 fp2 [] w ext2.drop wd2 wd2.sep ⟨rfl, hw S2⟩⟩
    · exact p2.elim
theorem de_metT {f : List D → D → Option D} {name : Str} {apos : Pos} {id : String} (slot : Slot "tuple" name id) (hty : typeOf (.builtin id) = pure (.type "method_descriptor")) (hm : MtR X id (rSome X.K true f)) (ha : DE X W a m) (hb : DE X W b n)
    (hbase : attributeBase a name X.env (eval a X.env) = eval a X.env := by rfl)
    (hfew : ((backTo pos (starEach (b :: []) X.env)).all (fun x => !x.1) && (backToKw pos (keywordEach [] X.env)).all (fun x => x.1.isSome) && decide (([b] : List Expr).length + ([] : List Keyword).length + (if ([] : List Keyword).isEmpty then 0 else 1) < 30)) = true := by rfl)
    (hline : (apos.endLine == pos.line) = true := by rfl) (hs : starEach (b :: []) X.env = (false, eval b X.env) :: starEach [] X.env := by rfl) (hpl : (backTo pos (starEach [] X.env)).any (·.1) = false := by rfl) :
    DE X W (.Call (.Attribute a name apos) [b] [] pos) (eMetT f m n) := by
  refine ⟨PEm (pe_bmT PySem.F.plainAttrs_tuple slot hty hm ha.p (pa_cons hb.p pa_nil hs) hbase hfew hline hs hpl) fun σ H Q h => ?_⟩
  refine TR.bind (R' := repV X.K) (k := kMetT f n) (Q := Q) h fun S e fp S1 H1 e1 fp1 fx x v wd ext wd1 sep1 rx p => ?_
  unfold kMetT at p
  split at p
  · rename_i l
    have hx := rep_v rx
    have hx' := hx
    unfold rep at hx'
    obtain ⟨pa, vs, rfl, h1, h2⟩ := hx'
    refine ⟨⟨pa, vs, rfl, h1⟩, ?_⟩
    obtain rfl : fx = [] := rx.1
    refine TR.next (fx := []) (R' := repV X.K) (k := fun y e => kMet f l y e) (Q := Q) wd1 ext sep1 p fun S2 H2 e2 fp2 fy y u ext2 st keep wd2 sep2 ry p2 => ?_
    have q2 := h1.stb st
    have r2 := reps.stb st _ _ h2
    exact met_fin (S1 := S1) (tp := true) (by rw [if_pos rfl]; exact q2.sq) r2 (by simpa using ext2) wd2 (by simpa using sep2) ry p2
  · exact p.elim
theorem de_metL {f : List D → D → Option D} {name : Str} {apos : Pos} {id : String} (slot : Slot "list" name id) (hty : typeOf (.builtin id) = pure (.type "method_descriptor")) (hm : MtR X id (rSome X.K false f)) (ha : DE X W a m) (hb : DE X W b n)
    (hbase : attributeBase a name X.env (eval a X.env) = eval a X.env := by rfl)
    (hfew : ((backTo pos (starEach (b :: []) X.env)).all (fun x => !x.1) && (backToKw pos (keywordEach [] X.env)).all (fun x => x.1.isSome) && decide (([b] : List Expr).length + ([] : List Keyword).length + (if ([] : List Keyword).isEmpty then 0 else 1) < 30)) = true := by rfl)
    (hline : (apos.endLine == pos.line) = true := by rfl) (hs : starEach (b :: []) X.env = (false, eval b X.env) :: starEach [] X.env := by rfl) (hpl : (backTo pos (starEach [] X.env)).any (·.1) = false := by rfl) :
    DE X W (.Call (.Attribute a name apos) [b] [] pos) (eMetL f m n) := by
  refine ⟨PEm (pe_bm PySem.F.plainAttrs_list slot hty hm ha.p (pa_cons hb.p pa_nil hs) hbase hfew hline hs hpl) fun σ H Q h => ?_⟩
  refine TR.bind (R' := repV X.K) (k := kMetL f n) (Q := Q) h fun S e fp S1 H1 e1 fp1 fx x v wd ext wd1 sep1 rx p => ?_
  unfold kMetL at p
  cases hl : x.lst? with
  | none => rw [hl] at p; exact p.elim
  | some l =>
    rw [hl] at p
    have hd : x.d = some (.lst l) := by
      unfold Vl.lst? at hl
      split at hl <;> cases hl <;> rfl
    obtain ⟨ext1, wd1', rd⟩ := froze_wait ext wd1 sep1 hd rx
    unfold rep at rd
    obtain ⟨pa, vs, rfl, h1, h2⟩ := rd
    refine ⟨.inl ⟨rfl, vs, h1.sq⟩, ?_⟩
    refine TR.next (fx := []) (R' := repV X.K) (k := fun y e => kMet f l y e) (Q := Q) wd1' (by simpa using ext1) (by simpa using wd1'.sep) p fun S2 H2 e2 fp2 fy y u ext2 st keep wd2 sep2 ry p2 => ?_
    have q2 := h1.stb st
    have r2 := reps.stb st _ _ h2
    exact met_fin (S1 := S1) (tp := false) (by rw [if_neg Bool.false_ne_true]; exact q2.sq) r2 (by simpa using ext2) wd2 (by simpa using sep2) ry p2
end
section
variable {X : Cx} {W : WX} {a b : Expr} {pos apos : Pos} {m n : M Vl}
end
end Fx
end

section
set_option Elab.async false
set_option linter.all false
set_option maxRecDepth 100000
set_option maxHeartbeats 4000000
/-! Wv: ranges held by a name. -/
namespace Fx
open PySem PySem.Spec PyProof.Rows L2
section
variable {X : Cx} {W : WX} {a b c : Expr} {pos : Pos} {m n : M Vl}
theorem bb_range : bootBuiltins "range" = some (.type "range") := by decide +kernel
theorem cr_range1 : CallR X (.type "range") (fun vs H Q => ∃ j, vs = [V.int j] ∧ ∀ p, H p = none → Q (.ref p) (upd H p (.rng 0 j))) := by
  intro pins s σ H vs us Q I r h
  obtain ⟨j, rfl, q⟩ := h
  obtain ⟨u, rfl, ru⟩ := vals1 r
  obtain ⟨t, rfl⟩ := ru
  refine call_range_1 ⟨.ref s.heap.objs.size, upd H s.heap.objs.size (.rng 0 j), I.laid (t' := s.toks + 1 + 1) (fun b o e => Heap.get?_push_of_some _ e) (Nat.le_refl _) ?_, rfl, q _ (I.hok.fresh (Nat.le_refl _))⟩
  exact ⟨_, _, _, Heap.get?_push_size _ rfl⟩
theorem ok_rg {K : PySem.W.Frag} : Op1 K (RP K) oRg (fun x H Q => ∃ j, [x] = [V.int j] ∧ ∀ p, H p = none → Q (.ref p) (upd H p (.rng 0 j))) := by
  intro S H x z fx u Q e dom sep rx h
  unfold oRg at e
  split at e
  · rename_i j
    split at e
    · cases e
      obtain ⟨h1, h2⟩ := rx
      unfold rep at h2
      refine ⟨j, by rw [h2], fun p hp => h _ [] _ (fun a o ha => ?_) (fun a ha => absurd ha (by simp)) Sep.nil ⟨rfl, p, rfl, upd_same⟩⟩
      rw [upd_ne (ne_of_none ha hp)]
      exact ha
    · cases e
  · cases e
theorem de_rg {p : Pos} (ha : DP X W a m) (hm : X.mg "range" = none) (hg : Gl X "range" := by rfl)
    (he : starEach (a :: []) X.env = (false, eval a X.env) :: starEach [] X.env := by rfl) (hpl : (backTo pos (starEach [] X.env)).any (·.1) = false := by rfl) : DE X W (.Call (.Name "range" p) [a] [] pos) (e1 oRg m) :=
  de_t1 cr_range1 ok_rg ha hm bb_range hg (by decide) (by decide) he hpl
theorem pi_rgv {tg e : Expr} {t : TE} (h : PE X e t) : PI X tg e (fun σ H R => t σ H fun x H1 => ∃ a lo hi, x = .ref a ∧ H1 a = some (.rng lo hi) ∧ (-(2 ^ 62) ≤ lo ∧ lo < 2 ^ 62 ∧ -(2 ^ 62) ≤ hi ∧ hi < 2 ^ 62) ∧ R (Itr lo (hi - lo).toNat) H1) := by
  refine ⟨fun pins s σ H R I hw => ?_⟩
  refine thn (h.run pins s σ H _ I hw) fun v s1 ⟨x, H1, I1, r1, a, lo, hi, e1, ha, ⟨h1, h2, h3, h4⟩, q⟩ => ?_
  subst e1
  cases r1
  obtain ⟨t1, t2, t3, ho⟩ := I1.hok a _ ha
  refine wpAny_pyIter_range (show IsRange s1.heap a lo hi 1 t1 t2 t3 from ho) (small_one h1 h2 h3 h4) ?_
  have I2 : Inv X pins σ H1 { s1 with heap := s1.heap.push { cls := .type "range_iterator", data := .fields #[rawInt lo, rawInt (Builtin.Range.rangeSize lo hi 1), rawInt 1] } } := I1.kept (t' := s1.toks) fun b o e => Heap.get?_push_of_some _ e
  refine ⟨s1.heap.objs.size, [s1.heap.objs.size], _, _, H1, rfl, I2, turn_range s1.heap.objs.size lo (hi - lo).toNat, ?_, fun b hb => ?_, q⟩
  · have e1 : lo + ((0 : Nat) : Int) * 1 = lo := by simp
    have e2 : (((hi - lo).toNat : Nat) : Int) - ((0 : Nat) : Int) = Builtin.Range.rangeSize lo hi 1 := by rw [rangeSize_one]; split <;> omega
    show IsRangeIter _ _ (lo + ((0 : Nat) : Int) * 1) ((((hi - lo).toNat : Nat) : Int) - ((0 : Nat) : Int)) 1
    rw [e1, e2]
    exact Heap.get?_push_size _ rfl
  · have e : b = s1.heap.objs.size := by simpa using hb
    subst e
    exact I1.fpOk (Nat.le_refl _) (I1.hok.fresh (Nat.le_refl _))
theorem di_rv {tg : Expr} (i : Nat) {x : Str} (hN : X.N[i]? = some x := by rfl) (hv : Vis X.env.scope x := by first | exact Or.inl rfl | exact Or.inr (Or.inl rfl) | exact Or.inr (Or.inr rfl)) (hd : (x == ("__debug__" : Str)) = false := by decide)
    (hcd : (x == ("__classdict__" : Str)) = false := by decide) : DI X W tg (.Name x pos) (iRv i) := by
  refine ⟨PIm (pi_rgv (pe_var hN hv hd hcd)) fun σ H R ⟨S, e, fp, wd, p⟩ => ?_⟩
  unfold iRv at p
  split at p
  · rename_i lo hi he
    split at p
    · rename_i hs
      simp only [Bool.and_eq_true] at hs
      obtain ⟨s1, s2⟩ := small_of hs.1
      obtain ⟨s3, s4⟩ := small_of hs.2
      obtain ⟨v, f1, f2, f3, q1, q2, q3, q4⟩ := wd.env.at he
      obtain ⟨r1, a, r2, r3⟩ := q3
      exact ⟨v, q1, a, lo, hi, r2, r3, ⟨by omega, by omega, by omega, by omega⟩, p S H fp [] _ (Ext.refl S H fp) wd wd.sep ⟨rfl, wk_rng⟩⟩
    · exact p.elim
  · exact p.elim
end
end Fx
end

section
set_option Elab.async false
set_option linter.all false
set_option maxRecDepth 100000
set_option maxHeartbeats 4000000
/-! Wz: sorted of rows of whole numbers; unpacking a list; the length of a list of one's own lists. -/
namespace Fx
open PySem PySem.Spec PyProof.Rows L2 PySem.W PySem.Calls
/-! ### sorted(tuples of ints) -/
def rSortT (K : Frag) : List V → Hp → VK → Prop := fun vs H Q => ∃ (a : Addr) (xs : List V) (S : SP') (rs : List (List Int)), vs = [V.ref a] ∧ (SqL K H a xs ∨ SqT K H a xs) ∧ reps K S H (rs.map tiD) xs ∧ (∀ r ∈ rs, r ≠ []) ∧
  ∀ ys p, H p = none → ys.length = xs.length → reps K S H ((rs.mergeSort fun a b => decide (a ≤ b)).map tiD) ys → Q (.ref p) (upd H p (.lst ys))
theorem pys_ints : ∀ r : List Int, D.pys (r.map .int) = r.map PyData.int
  | [] => rfl
  | i :: r => by simp only [List.map_cons, D.pys, D.py, pys_ints r]
theorem pys_tis : ∀ rs : List (List Int), D.pys (rs.map tiD) = rs.map fun r => PyData.tuple (r.map PyData.int)
  | [] => rfl
  | r :: rs => by simp only [List.map_cons, D.pys, tiD, D.py, pys_ints, pys_tis rs]
theorem dataLe_tis : dataLe false (fun r : List Int => PyData.tuple (r.map PyData.int)) = fun a b => decide (a ≤ b) := by
  funext p q
  show (!dataLt (.tuple (q.map .int)) (.tuple (p.map .int))) = _
  rw [dataLt_tuple]
  show (!rowLt (q.map .int) (p.map .int)) = _
  rw [dataLt_ints]
  by_cases h : q < p
  · have h' : ¬ p ≤ q := fun r => List.not_lt.mpr r h
    simp [h, h']
  · have h' : p ≤ q := List.not_lt.mp h
    simp [h, h']
section
variable {K : Frag} {S : SP'} {H : Hp}
theorem each_tis : ∀ {rs : List (List Int)} {xs : List V} {us : List Value}, reps K S H (rs.map tiD) xs → Vals xs us → EachIs (fun v r => ∃ x, rep K S H (tiD r) x ∧ RelV x v) us rs
  | [], _, _, h, r => by
    unfold reps at h
    subst h
    cases r
    exact .nil
  | r0 :: rs, _, _, h, r => by
    rw [List.map_cons] at h
    unfold reps at h
    obtain ⟨v, q, rfl, h1, h2⟩ := h
    cases r with
    | cons r1 r2 => exact .cons ⟨v, h1, r1⟩ (each_tis h2 r2)
theorem tis_each : ∀ {rs : List (List Int)} {us : List Value}, EachIs (fun v r => ∃ x, rep K S H (tiD r) x ∧ RelV x v) us rs → ∃ ys, reps K S H (rs.map tiD) ys ∧ Vals ys us
  | _, _, .nil => ⟨[], by simp [reps], .nil⟩
  | _, _, .cons ⟨x, h1, h2⟩ t => by
    obtain ⟨ys, h3, h4⟩ := tis_each t
    exact ⟨x :: ys, by rw [List.map_cons]; exact reps.cons h1 h3, .cons h2 h4⟩
end
theorem cr_sortT {X : Cx} (hu : X.A.units + 66 < cLine) : CallR X (.builtin "sorted") (rSortT X.K) := by
  intro pins s σ H vs us Q I r h
  obtain ⟨a, xs, S, rs, rfl, hs, hr, hne, q⟩ := h
  have hlr : rs.length = xs.length := by have := hr.length; rwa [List.length_map] at this
  have hd : dataLe false (fun r : List Int => PyData.tuple (r.map PyData.int)) = fun a b => decide (a ≤ b) := dataLe_tis
  have key : ∀ (its : List Value), xs.length ≤ sizeLine → ∀ out : List Value, out.length = rs.length → EachIs (fun v r => ∃ x, rep X.K S H (tiD r) x ∧ RelV x v) out (rs.mergeSort (dataLe false fun r : List Int => PyData.tuple (r.map PyData.int))) →
      EP X pins σ Q (.ref (s.heap.objs.size + 1)) { s with heap := sortedAll s.heap its (List.toArray out) } := fun its hz out hl e => by
    obtain ⟨ep, he'⟩ := PyProof.Rows.sortedAll_at s.heap its (List.toArray out)
    rw [hd] at e
    obtain ⟨ys, h1, h2⟩ := tis_each e
    have hy : ys.length = xs.length := by rw [Vals.length h2, hl, hlr]
    exact ⟨.ref _, upd H (s.heap.objs.size + 1) (.lst ys), I.laid (t' := s.toks) (fun _ _ => PyProof.Rows.sortedAll_old) (Nat.le_succ _) ⟨by omega, out, ep, h2, he'⟩, rfl, q _ _ (I.hok.fresh (Nat.le_succ _)) hy h1⟩
  have hal : AllAlike (rs.map fun r => PyData.tuple (r.map PyData.int)) := AllAlike.of fun r r' => by simp only [alike]; exact alike_ints r r'
  have hk : Sortable (rs.map fun r => PyData.tuple (r.map PyData.int)) := .inl fun d hd => by
    obtain ⟨b, hb, rfl⟩ := List.mem_map.mp hd
    cases b with
    | nil => exact absurd rfl (hne _ hb)
    | cons x r => exact ⟨_, _, rfl⟩
  have hb : ∀ b : List Int, b ∈ rs → X.A.units + 2 + (PyData.tuple (b.map PyData.int)).depth < cLine := fun b _ => by simp only [PyData.depth, depth_ints]; omega
  rcases hs with hs | hs
  · obtain ⟨its, rv, hl, hz⟩ := I.list hs
    rw [Vals.ref1 r]
    obtain ⟨as, ra⟩ := Dp.readsAll I _ xs its hr.dp rv
    rw [pys_tis] at ra
    exact sorted_data hl.isList (each_tis hr rv) (readsAll_each _ ra) hal hk (by omega) hb (key its hz)
  · obtain ⟨its, rv, hl, hz⟩ := I.tuple hs
    rw [Vals.ref1 r]
    obtain ⟨as, ra⟩ := Dp.readsAll I _ xs its hr.dp rv
    rw [pys_tis] at ra
    exact sorted_data_tup hl (each_tis hr rv) (readsAll_each _ ra) hal hk (by omega) hb (key its hz)
theorem tis_of : ∀ {l : List D} {rs : List (List Int)}, D.introws l = some rs → l = rs.map tiD ∧ ∀ r ∈ rs, r ≠ []
  | [], _, h => by cases h; simp
  | .tup (d :: m) :: l, _, h => by
    simp only [D.introws] at h
    cases q1 : D.ints (d :: m) with
    | none => rw [q1] at h; cases h
    | some ns =>
      cases q2 : D.introws l with
      | none => rw [q1, q2] at h; cases h
      | some rs =>
        rw [q1, q2] at h
        cases h
        obtain ⟨h1, h2⟩ := tis_of q2
        have hi : ∀ {l : List D} {ns : List Int}, D.ints l = some ns → l = ns.map .int := by
          intro l
          induction l with
          | nil => intro ns e; simp [D.ints] at e; subst e; rfl
          | cons d l ih =>
            intro ns e
            cases d <;> simp only [D.ints] at e <;> try cases e
            rename_i i
            cases q : D.ints l with
            | none => rw [q] at e; cases e
            | some ms => rw [q] at e; cases e; rw [ih q]; rfl
        refine ⟨by rw [List.map_cons, ← h1]; congr 1; unfold tiD; rw [← hi q1], ?_⟩
        intro r hr
        rcases List.mem_cons.mp hr with rfl | hr
        · intro z
          subst z
          have := hi q1
          cases this
        · exact h2 r hr
  | .tup [] :: _, _, h => by cases h
  | .non :: _, _, h => by cases h
  | .int _ :: _, _, h => by cases h
  | .str _ :: _, _, h => by cases h
  | .bl _ :: _, _, h => by cases h
  | .lst _ :: _, _, h => by cases h
theorem ok_sortT {K : Frag} : Op1 K (RP K) oSortT (fun x H Q => rSortT K [x] H Q) := by
  intro S H x z fx u Q e dom sep rx h
  unfold oSortT at e
  cases q : x.items with
  | none => rw [q] at e; cases e
  | some l =>
    rw [q, Option.bind_some] at e
    cases q2 : D.introws l with
    | none => rw [q2] at e; cases e
    | some rs =>
      rw [q2] at e
      cases e
      obtain ⟨a, vs, h1, h2, h3⟩ := rx.items q
      obtain ⟨hl, hne⟩ := tis_of q2
      rw [hl] at h3
      refine ⟨a, vs, S, rs, by rw [h1], h2, h3, hne, fun ys p hp hy hr => ?_⟩
      obtain ⟨k, fr, sp, rt⟩ := fresh_lst hr hp dom
      exact h _ [p] _ k fr sp rt
/-- either kind -/
theorem cr_or {X : Cx} {f : Value} {r1 r2 : List V → Hp → VK → Prop} (h1 : CallR X f r1) (h2 : CallR X f r2) : CallR X f (fun vs H Q => r1 vs H Q ∨ r2 vs H Q) := by
  intro pins s σ H vs us Q I r h
  rcases h with h | h
  · exact h1 pins s σ H vs us Q I r h
  · exact h2 pins s σ H vs us Q I r h
theorem ok_sort {K : Frag} : Op1 K (RP K) oSort (fun x H Q => rSortI K [x] H Q ∨ rSortT K [x] H Q) := by
  intro S H x z fx u Q e dom sep rx h
  unfold oSort at e
  split at e
  · rename_i y q
    cases e
    exact .inl (ok_sortI S H x _ fx u Q q dom sep rx h)
  · exact .inr (ok_sortT S H x z fx u Q e dom sep rx h)
section
variable {X : Cx} {W : WX} {a b c : Expr} {pos : Pos} {m n : M Vl}
theorem de_sort {p : Pos} (hu : X.A.units + 66 < cLine) (ha : DP X W a m) (hm : X.mg "sorted" = none) (hg : Gl X "sorted" := by rfl)
    (he : starEach (a :: []) X.env = (false, eval a X.env) :: starEach [] X.env := by rfl) (hpl : (backTo pos (starEach [] X.env)).any (·.1) = false := by rfl) : DE X W (.Call (.Name "sorted" p) [a] [] pos) (e1 oSort m) := de_b1 (cr_or (cr_sortI hu) (cr_sortT hu)) ok_sort ha hm (by decide +kernel) hg (by decide) (by decide) he hpl
/-! ### a, b = a list -/
theorem pg_or {tg : Expr} {t1 t2 : TG} (h1 : PG X tg t1) (h2 : PG X tg t2) : PG X tg (fun v σ H Q => t1 v σ H Q ∨ t2 v σ H Q) := by
  refine ⟨fun pins s σ H v u Q I r hw => ?_⟩
  rcases hw with h | h
  · exact h1.run pins s σ H v u Q I r h
  · exact h2.run pins s σ H v u Q I r h
theorem dg_tl {ts : List Nat} {gr : List (D → En → Option En)} {es : List Expr} {k : Nat} (hc : X.calm = true) (h : DGs X ts es gr) (hl : gr.length = (assignEach es X.env).length := by rfl) (hst : (assignEach es X.env).findIdx? (·.1) = none := by rfl) :
    DG X ts (.Tuple es k pos) (gL gr) false := ⟨PGm (pg_or (pg_tup hc h.p rfl hst) (pg_lst hc h.p rfl hst)) fun v σ H Q ⟨S, e, fp, d, e', wd, r, h, q⟩ => by
  unfold gL at h
  cases d with
  | tup l =>
    dsimp only at h
    have r2 : rep X.K S H (.tup l) v := r
    unfold rep at r2
    obtain ⟨a0, vs, e0, e2, h2⟩ := r2
    exact .inl ⟨a0, vs, e0, e2.sq, by rw [← h2.length, gs_len h, hl], S, e, fp, l, e', wd, h2, h, q⟩
  | lst l =>
    dsimp only at h
    have r2 : rep X.K S H (.lst l) v := r
    unfold rep at r2
    obtain ⟨a0, vs, e0, e2, h2⟩ := r2
    exact .inr ⟨a0, vs, e0, e2.sq, by rw [← h2.length, gs_len h, hl], S, e, fp, l, e', wd, h2, h, q⟩
  | _ => cases h⟩
/-! ### len of a list of one's own lists -/
theorem de_lenO (k : Nat) {x : Str} {p p1 : Pos} (hm : X.mg "len" = none) (hN : X.N[k]? = some x := by rfl) (hv : Vis X.env.scope x := by first | exact Or.inl rfl | exact Or.inr (Or.inl rfl) | exact Or.inr (Or.inr rfl)) (hd : (x == ("__debug__" : Str)) = false := by decide)
    (hcd : (x == ("__classdict__" : Str)) = false := by decide) (hg : Gl X "len" := by rfl)
    (he : starEach (.Name x p1 :: []) X.env = (false, eval (.Name x p1) X.env) :: starEach [] X.env := by rfl) (hpl : (backTo pos (starEach [] X.env)).any (·.1) = false := by rfl) : DE X W (.Call (.Name "len" p) [.Name x p1] [] pos) (eLenO k) := by
  refine ⟨PEm (pe_callB call_len_seq hg hm PySem.boot_len (pa_cons (pe_var hN hv hd hcd) pa_nil he) (by decide) (by decide) he hpl) fun σ H Q h => ?_⟩
  obtain ⟨S, e, fp, wd, p⟩ := h
  unfold eLenO at p
  split at p
  · rename_i l hl
    obtain ⟨v, fx, h1, h2, _⟩ := wd_at wd hl
    obtain ⟨a0, vs, as, e1, _, e3, e4⟩ := h2
    subst e1
    refine ⟨_, h1, ?_⟩
    refine ⟨a0, vs, rfl, .inl (.inl (.inl e3)), ?_⟩
    have := e4.length.1
    exact p S H fp [] _ (Ext.refl S H fp) wd wd.sep ⟨rfl, by rw [this]; exact rep_int _⟩
  · exact p.elim
end
end Fx
end

section
set_option Elab.async false
set_option linter.all false
set_option maxRecDepth 100000
set_option maxHeartbeats 4000000
/-! Wzz: zip; a place whose index is reckoned; any of whole numbers. -/
namespace Fx
open PySem PySem.Spec PyProof.Rows L2
section
variable {X : Cx} {W : WX} {a b c : Expr} {pos : Pos} {m n : M Vl}
theorem di_zip {elts : List Expr} {kk : Nat} {tpos p : Pos} (ha : DE X W a m) (hb : DE X W b n) (hm : X.mg "zip" = none) (hg : Gl X "zip" := by rfl)
    (hs : starEach [a, b] X.env = (false, eval a X.env) :: starEach [b] X.env := by rfl) (hpl : (backTo pos (starEach [b] X.env)).any (·.1) = false := by rfl)
    (he2 : starEach (b :: []) X.env = (false, eval b X.env) :: starEach [] X.env := by rfl) :
    DI X W (.Tuple elts kk tpos) (.Call (.Name "zip" p) [a, b] [] pos) (iZipS m n) true := by
  refine ⟨PIm (RZ.pi_zipA hg hm (pa_cons ha.p (pa_cons hb.p pa_nil he2) hs) hs hpl) fun σ H R q => ?_⟩
  refine TR.bind (k := fun x e => (n e).then fun y e => kZip x y e) q fun S e fp S1 H1 e1 fp1 fx x v wd ext wd1 sep1 rx p => ?_
  refine TR.next (k := fun y e => kZip x y e) wd1 ext sep1 p fun S2 H2 e2 fp2 fy y u ext2 st keep wd2 sep2 ry p2 => ?_
  have rx2 : repV X.K S2 H2 x fx v := rx.stb st keep
  unfold kZip at p2
  split at p2
  · rename_i l l2
    obtain ⟨h1, h2⟩ := rx2
    obtain ⟨h3, h4⟩ := ry
    unfold rep at h2 h4
    obtain ⟨a0, vs, e0, q1, q2⟩ := h2
    obtain ⟨b0, ws, e1', q3, q4⟩ := h4
    exact ⟨a0, b0, vs, ws, by rw [e0, e1'], .inr ⟨q1.sq, q3.sq, p2 S2 H2 fp2 [] _ (ext2.drop.drop) wd2 wd2.sep ⟨rfl, wk_zipT q1.sq q3.sq q2 q4⟩⟩⟩
  · rename_i l l2
    obtain ⟨h1, h2⟩ := rx2
    obtain ⟨h3, h4⟩ := ry
    unfold rep at h2 h4
    obtain ⟨a0, vs, e0, q1, q2⟩ := h2
    obtain ⟨b0, ws, e1', q3, q4⟩ := h4
    exact ⟨a0, b0, vs, ws, by rw [e0, e1'], .inl ⟨q1.sq, q3.sq, p2 S2 H2 fp2 [] _ (ext2.drop.drop) wd2 wd2.sep ⟨rfl, wk_zipL q1 q3 q2 q4⟩⟩⟩
  · exact p2.elim
/-- x[i] = .., the index reckoned behind the value -/
theorem dg_ixM (k : Nat) {x : Str} {p : Pos} (ha : DE X W a m) (hN : X.N[k]? = some x := by rfl) (hv : Vis X.env.scope x := by first | exact Or.inl rfl | exact Or.inr (Or.inl rfl) | exact Or.inr (Or.inr rfl)) (hd : (x == ("__debug__" : Str)) = false := by decide)
    (hcd : (x == ("__classdict__" : Str)) = false := by decide) (hasg : ∀ v, assign (.Subscript (.Name x p) a pos) X.env v = (do
      let ov ← holding [v] (eval (.Name x p) X.env)
      let iv ← holding [v, ov] (eval a X.env)
      standAt pos
      holding [v, ov, iv] (setItem ov iv v)
      release [v, ov, iv] []) := by intro _; rfl) : DG X [] (.Subscript (.Name x p) a pos) (gIxM k m) := by
  refine ⟨PGm (pg_sub (pe_var hN hv hd hcd) ha.p set_list hasg) fun v σ H Q ⟨S, e, fp, d, e', wd, r, h, q⟩ => ?_⟩
  unfold gIxM at h
  split at h
  · rename_i l0 he0
    obtain ⟨a0, vs0, g1, _, _, _⟩ := wd.own he0
    refine ⟨.ref a0, g1, S, e, fp, wd, ?_⟩
    split at h
    · rename_i i e1 hm
      rw [hm]
      intro S' H' fp' fx iv ext wd' sep rx
      split at h
      · rename_i l he
        cases hj : Fx.ixN l.length i with
        | none => rw [hj] at h; cases h
        | some j =>
          rw [hj] at h
          cases h
          obtain ⟨a1, vs, h1, h2, h3, h4⟩ := wd'.own he
          rw [g1] at h1
          cases h1
          have r' : rep X.K S' H' d v := rep.stb (ext.stb wd.sep) d v r
          obtain ⟨wd2, ext2⟩ := h4 (l.set j d) (vs.set j v) (h3.set j r')
          have hiv := rx.2
          unfold rep at hiv
          exact ⟨a0, vs, i, j, rfl, hiv, h2, by rw [← h3.length]; exact hj, q σ S' _ fp' (ext.drop.trans ext2) wd2 (Out1.refl _ _)⟩
      · cases h
    · cases h
  · cases h
theorem smalls_py : ∀ {l : List D} {ns : List Int}, D.smalls l = some ns → D.pys l = ns.map PyData.int ∧ ∀ i ∈ ns, smallI i = true
  | [], _, h => by cases h; exact ⟨rfl, by simp⟩
  | .int i :: l, _, h => by
    simp only [D.smalls] at h
    split at h
    · rename_i hi
      cases q : D.smalls l with
      | none => rw [q] at h; cases h
      | some ns =>
        rw [q] at h
        cases h
        obtain ⟨h1, h2⟩ := smalls_py q
        exact ⟨by simp only [D.pys, D.py, List.map_cons, h1], fun j hj => by
          rcases List.mem_cons.mp hj with rfl | hj
          · exact hi
          · exact h2 j hj⟩
    · cases h
  | .non :: _, _, h => by cases h
  | .bl _ :: _, _, h => by cases h
  | .str _ :: _, _, h => by cases h
  | .tup _ :: _, _, h => by cases h
  | .lst _ :: _, _, h => by cases h
theorem int_truthy (ns : List Int) : (ns.map PyData.int).any PyData.truthy = ns.any fun i => decide (i ≠ 0) := by
  rw [List.any_map]
  congr 1
  funext i
  by_cases h : i = 0 <;> simp [PyData.truthy, h]
theorem int_plain : ∀ ns : List Int, PyData.plainAll (ns.map PyData.int) = true
  | [] => rfl
  | b :: bs => by simp only [List.map_cons, PyData.plainAll, PyData.plain, int_plain bs, Bool.and_self]
theorem int_fits {ns : List Int} (h : ∀ i ∈ ns, smallI i = true) : ∀ x ∈ ns.map PyData.int, x.fits63 := fun x hx => by
  obtain ⟨i, hi, rfl⟩ := List.mem_map.mp hx
  obtain ⟨h1, h2⟩ := small_of (h i hi)
  simp only [PyData.fits63]
  all_goals omega
theorem call_anyI (hc : X.calm = true) : CallR X (.builtin "any") (rIt X.K fun l => (D.smalls l).map fun ns => .bl (ns.any fun i => decide (i ≠ 0))) := by
  intro pins s σ H xs us Q I r h
  obtain ⟨a, vs, l, S, d, rfl, ha, rl, hf, q⟩ := h
  obtain ⟨u, rfl, rx⟩ := vals1 r
  cases rx
  dsimp only at hf
  cases hb : D.smalls l with
  | none => rw [hb] at hf; cases hf
  | some ns =>
    rw [hb] at hf
    cases hf
    obtain ⟨its, rv, hl, as, hr⟩ := items_at I ha rl
    obtain ⟨h1, h2⟩ := smalls_py hb
    rw [h1] at hr
    have fin : ∀ h' tk, (∀ b o, s.heap.get? b = some o → h'.get? b = some o) → EP X pins σ Q (.bool ((ns.map PyData.int).any PyData.truthy)) { s with heap := h', toks := tk } := fun h' tk k =>
      ⟨.bl _, H, I.kept k, rfl, by rw [int_truthy]; exact q _ (rep_bl _)⟩
    rcases hl with hl | hl
    · exact PySem.W.any_list_data (I.ok.hd hc) hl hr (int_plain ns) (int_fits h2) fin
    · exact PySem.W.any_tuple_data (I.ok.hd hc) hl hr (int_plain ns) (int_fits h2) fin
theorem ok_anyI {K : PySem.W.Frag} : Op1 K (RP K) oAnyI (fun x H Q => rIt K (fun l => (D.smalls l).map fun ns => .bl (ns.any fun i => decide (i ≠ 0))) [x] H Q) := ok_it fun x => by
  unfold oAnyI
  cases x.items with
  | none => rfl
  | some l =>
    simp only [Option.bind_some]
    cases D.smalls l <;> rfl
end
end Fx
end

section
set_option Elab.async false
set_option linter.all false
set_option maxRecDepth 100000
set_option maxHeartbeats 4000000
/-! Wal: a def that is known under another name. -/
namespace Fx
open PySem PySem.Spec PyProof.Rows L2
structure DfA (K : PySem.W.Frag) (mg : Str → Option Value) (x own : Str) (ps : List Str) (st : Stmt) : Prop where
  ex : ∃ f fd, Fun K own own st f fd ∧ Binds K fd ps [] ∧ mg x = some (.ref f)
section
variable {P : Program} {w : World} {K : PySem.W.Frag} {mg : Str → Option Value} {base : Heap}
theorem fk_defA {x own qual : Str} {st : Stmt} {f : Addr} {fd : FuncData} {N ps : List Str} {k : Nat} {lent : List Nat} {c : C} (Fn : Fun K own qual st f fd) (sc : FnScope N ps (defScope st)) (bn : Binds K fd ps []) (gm : mg x = some (.ref f)) (hl : lent.length ≤ 1)
    (hb : ∀ (cdv : Value) (A : Around) (outer : List Env) (s : Shared) (H : Hp) (E : XK), Room k (A.deeper (envOfC qual (defScope st) s.heap.objs.size f cdv)) → ∀ B : List (Nat × Addr), B.map (·.1) = lent → DSs (cxOf (L2.CX P w) P w K mg base N qual (defScope st) f cdv A outer s H E) B (fun cls d _ H => E cls d H) (defBody st) c) :
    Fk P w K mg base (k + 1) x ps lent (runDef N.length lent c) := by
  refine ⟨f, fd, Fn.okX sc (fun vs H Q E h => h.1) (fun cdv A outer s H vs Q E hr h => ?_), gm, Fn.kp, bn⟩
  obtain ⟨B, h1, h2⟩ := body_sp hl h
  exact ⟨_, (hb cdv A outer s H E hr B h1).p, h2⟩
end
end Fx
end

section
set_option Elab.async false
set_option linter.all false
set_option maxRecDepth 100000
set_option maxHeartbeats 4000000
/-! Woo: rows[i] += [..] and rows.append([..]) of a list of one's own lists. -/
namespace Fx
open PySem PySem.Spec PyProof.Rows L2
/-- what a name holds, taken out -/
theorem Wd.take {K : PySem.W.Frag} {S : SP'} {H : Hp} {e : En} {fp : List Addr} {σ : L2.St} {k : Nat} {x : Vl} (wd : Wd K S H e fp σ) (he : e[k]? = some (some x)) :
    ∃ v f2 fp', σ[k]? = some (some v) ∧ repV K S H x f2 v ∧ Wd K S H (e.set k none) fp' σ ∧ Sep S H (f2 ++ fp') ∧ (∀ a ∈ f2, a ∈ fp) ∧ (∀ a ∈ fp', a ∈ fp) ∧ ∀ g, Sep S H (g ++ fp) → Sep S H (g ++ (f2 ++ fp')) := by
  obtain ⟨v, f1, f2, f3, q1, q2, q3, q4⟩ := wd.env.at he
  subst q2
  have env := q4 S H none [] (some v) (Stb.refl S H) (fun _ _ => rfl) rfl
  rw [set_same q1] at env
  have perm : (f1 ++ (f2 ++ f3)).Perm (f2 ++ (f1 ++ f3)) := by
    rw [← List.append_assoc, ← List.append_assoc]
    exact List.perm_append_comm.append_right f3
  have hm : ∀ a, a ∈ f2 ++ (f1 ++ f3) ↔ a ∈ f1 ++ (f2 ++ f3) := fun a => perm.symm.mem_iff
  have sep : Sep S H (f2 ++ (f1 ++ f3)) := ⟨perm.nodup_iff.mp wd.sep.nd, fun a q => wd.sep.ns a ((hm a).mp q), fun a q => wd.sep.ow a ((hm a).mp q)⟩
  refine ⟨v, f2, f1 ++ f3, q1, q3, ⟨by simpa using env, sep.app2, wd.dom⟩, sep, fun a q => (hm a).mp (List.mem_append_left _ q), fun a q => (hm a).mp (List.mem_append_right _ q), fun g sg => ?_⟩
  have perm2 : (g ++ (f1 ++ (f2 ++ f3))).Perm (g ++ (f2 ++ (f1 ++ f3))) := perm.append_left g
  exact ⟨perm2.nodup_iff.mp sg.nd, fun a q => sg.ns a (perm2.mem_iff.mpr q), fun a q => sg.ow a (perm2.mem_iff.mpr q)⟩
def rGetL : V → V → Hp → VK → Prop := fun o i H Q => ∃ p xs k w, o = .ref p ∧ i = .int k ∧ 0 ≤ k ∧ H p = some (.lst xs) ∧ xs[k.toNat]? = some w ∧ Q w H
theorem get_list {X : Cx} : PGet X rGetL := by
  intro pins s σ H o i ov iv Q I ro ri h
  obtain ⟨p, xs, k, w, rfl, rfl, h0, hp, hw, q⟩ := h
  cases ro
  obtain ⟨t, rfl⟩ := ri
  obtain ⟨its, n, r, ho, hz⟩ := I.lst hp
  have hl := r.length
  have hn := line63
  have hlt : k.toNat < xs.length := by
    rcases Nat.lt_or_ge k.toNat xs.length with z | z
    · exact z
    · rw [List.getElem?_eq_none z] at hw; cases hw
  obtain ⟨u, hu, ru⟩ := r.get hw
  refine wpAny_getItem_list (items := its.toArray) ⟨_, ho, rfl, n, rfl⟩ h0 (by omega) (by simpa using hu) ⟨w, H, I, ru, q⟩
section
variable {X : Cx} {W : WX} {a b c : Expr} {pos : Pos} {m n : M Vl}
theorem Sep.upd {S : SP'} {H : Hp} {fp : List Addr} {p : Addr} {ws : List V} (sp : Sep S H fp) : Sep S (upd H p (.lst ws)) fp :=
  ⟨sp.nd, sp.ns, fun c hc => by
    by_cases z : c = p
    · subst z; exact ⟨_, upd_same, trivial⟩
    · rw [upd_ne z]; exact sp.ow c hc⟩
theorem ds_augIx {B : List (Nat × Addr)} (k : Nat) {x : Str} {p tpos : Pos} {f : N} (hi : DN X a f) (hv : DE X W b m) (hN : X.N[k]? = some x := by rfl) (hvis : Vis X.env.scope x := by first | exact Or.inl rfl | exact Or.inr (Or.inl rfl) | exact Or.inr (Or.inr rfl)) (hd : (x == ("__debug__" : Str)) = false := by decide)
    (hcd : (x == ("__classdict__" : Str)) = false := by decide)
    (ha : ∀ ov iv new, augStore a ov iv new = (do holding [new, ov, iv] (setItem ov iv new); release [new, ov, iv] []; pure .next) := by intros; rfl) :
    DS X B W (.AugAssign (.Subscript (.Name x p) a tpos) .Add b pos) (sAugIx k f m) := by
  refine ⟨PSm (ps_augS (pe_var hN hvis hd hcd) hi.p get_list hv.p (fun pins s σ H x y v u Q => iop_ext pins s σ H x y v u Q) set_list ha) fun D σ H ⟨S, e, fp, wd, bo, h⟩ => ?_⟩
  unfold sAugIx at h
  split at h
  · rename_i l i he hf
    split at h
    · rename_i h0
      split at h
      · rename_i r hr
        obtain ⟨v, f2, fp', q1, q2, q3, q4, q5, q6, _⟩ := wd.take he
        have q2' := q2
        obtain ⟨a0, vs, as, e1, e2, e3, e4⟩ := q2
        subst e1 e2
        obtain ⟨b0, ws, g1, g2, g3, g4⟩ := e4.get hr
        have hbm : b0 ∈ a0 :: as := List.mem_cons_of_mem _ (List.mem_of_getElem? g1)
        have hab : a0 ≠ b0 := fun z => (List.nodup_cons.mp q4.app1.nd).1 (z ▸ List.mem_of_getElem? g1)
        refine ⟨.ref a0, q1, S, e, fp, wd, i, hf, a0, vs, i, .ref b0, rfl, rfl, h0, e3, g2, S, e.set k none, fp', q3, ?_⟩
        cases hm : m (e.set k none) with
        | bad => simp only [hm] at h; exact h.elim
        | ex x1 e1 =>
          simp only [hm] at h
          exact fun S' H' fp'' c dd a b d => h S' H' fp'' σ c dd (a.more q6) b bo d
        | ok y e2 =>
          simp only [hm] at h
          intro S' H' fp2 fx u x' wd' sp ry
          split at h
          · rename_i z e2' heq
            cases heq
            split at h
            · rename_i hz
              obtain ⟨b1, ws', k1, k2, k3, k4⟩ := ry
              subst k1 k2
              obtain ⟨s1, s2⟩ := q4.wait x'.drop wd'.sep
              have st := x'.drop.stb q3.sep
              have hb : H' b0 = some (.lst ws) := (s2 b0 hbm).trans g3
              have ha' : H' a0 = some (.lst vs) := (s2 a0 (by simp)).trans e3
              have hl1 := g4.length
              have hl2 := k4.length
              refine ⟨b0, b1, ws, ws', rfl, rfl, hb, k3, by rw [← hl1, ← hl2, ← lim_eq]; exact hz, ?_⟩
              have hix : Fx.ixN vs.length i = some i.toNat := by
                have hlt : i.toNat < vs.length := by
                  rcases Nat.lt_or_ge i.toNat vs.length with z | z
                  · exact z
                  · rw [List.getElem?_eq_none z] at g2; cases g2
                unfold Fx.ixN
                simp only [h0, if_true]
                first | exact if_pos hlt | exact if_pos (by omega) | simp [hlt]
              refine ⟨a0, vs, i, i.toNat, rfl, rfl, by rw [upd_ne hab]; exact ha', hix, ?_⟩
              have hvs : vs.set i.toNat (.ref b0) = vs := by
                refine List.ext_getElem? fun c => ?_
                rw [List.getElem?_set]
                split
                · rename_i z
                  subst z
                  rw [g2]
                  split
                  · rfl
                  · rename_i z; rw [List.getElem?_eq_none (by omega)] at g2; cases g2
                · rfl
              rw [hvs]
              have hu : upd (upd H' b0 (.lst (ws ++ ws'))) a0 (.lst vs) = upd H' b0 (.lst (ws ++ ws')) := by
                funext c
                by_cases z : c = a0
                · subst z; rw [upd_same, upd_ne hab]; exact ha'.symm
                · rw [upd_ne z]
              rw [hu]
              have sb : Sep S' H' ([b0] ++ fp2) := ⟨List.nodup_cons.mpr ⟨fun z => s1.apart hbm z, s1.app2.nd⟩, fun c hc => by
                rcases List.mem_append.mp hc with hc | hc
                · simp at hc; subst hc; exact s1.ns _ (List.mem_append_left _ hbm)
                · exact s1.app2.ns c hc, fun c hc => by
                rcases List.mem_append.mp hc with hc | hc
                · simp at hc; subst hc; exact s1.ow _ (List.mem_append_left _ hbm)
                · exact s1.app2.ow c hc⟩
              obtain ⟨wd3, st3, _⟩ := wd'.write (ws := ws ++ ws') sb hb
              have e4' : rows X.K S' H' l as vs := rows.stb st l as vs (fun c hc => s2 c (List.mem_cons_of_mem _ hc)) e4
              have k4' : reps X.K S' H' z ws' := k4
              have g4' : reps X.K S' H' r ws := reps.stb st r ws g4
              have rr := rows.set st3 e4' (List.nodup_cons.mp q4.app1.nd).2 g1 (fun c _ hc => upd_ne hc) upd_same (reps.stb st3 _ _ (g4'.app k4'))
              obtain ⟨fp4, wd4, sub4⟩ := wd3.put (fx := a0 :: as) (i := k) (x := .oo (l.set i.toNat (r ++ z))) (v := .ref a0) s1.upd ⟨a0, vs, as, rfl, rfl, by rw [upd_ne hab]; exact ha', rr⟩
              rw [set_same q1] at wd4
              have x2 := (x'.drop).more q6
              refine h S' _ fp4 σ ⟨fun c o hc hm => ?_, fun c hc => ?_, x2.mono, x2.sfr⟩ wd4 bo
              · rw [upd_ne (show c ≠ b0 from fun z => hm (by rw [z]; exact q5 b0 hbm))]
                exact x2.keep c o hc hm
              · rcases List.mem_append.mp (sub4 c hc) with hc | hc
                · exact .inl (q5 c hc)
                · exact x2.fresh c hc
            · exact h.elim
          · exact h.elim
          · rename_i heq; cases heq
          · rename_i heq; cases heq
      · exact h.elim
    · exact h.elim
  · exact h.elim
theorem rows.snoc {K : PySem.W.Frag} {S : SP'} {H : Hp} {b : Addr} {z : List D} {ws : List V} (hb : H b = some (.lst ws)) (hz : reps K S H z ws) : ∀ {ls : List (List D)} {as : List Addr} {vs : List V}, rows K S H ls as vs → rows K S H (ls ++ [z]) (as ++ [b]) (vs ++ [.ref b])
  | [], as, vs, h => by
    unfold rows at h
    obtain ⟨rfl, rfl⟩ := h
    simp only [List.nil_append]
    unfold rows
    exact ⟨b, [], ws, [], rfl, rfl, hb, hz, by unfold rows; exact ⟨rfl, rfl⟩⟩
  | l :: ls, as, vs, h => by
    unfold rows at h
    obtain ⟨b0, as, ws0, rs, h1, h2, h3, h4, h5⟩ := h
    subst h1 h2
    simp only [List.cons_append]
    unfold rows
    exact ⟨b0, _, ws0, _, rfl, rfl, h3, h4, rows.snoc hb hz h5⟩
theorem de_appO (k : Nat) {x : Str} {p apos : Pos} (ha : DE X W a m) (hN : X.N[k]? = some x := by rfl) (hv : Vis X.env.scope x := by first | exact Or.inl rfl | exact Or.inr (Or.inl rfl) | exact Or.inr (Or.inr rfl)) (hd : (x == ("__debug__" : Str)) = false := by decide)
    (hcd : (x == ("__classdict__" : Str)) = false := by decide) (he : starEach (a :: []) X.env = (false, eval a X.env) :: starEach [] X.env := by rfl) (hb : attributeBase (.Name x p) "append" X.env (eval (.Name x p) X.env) = eval (.Name x p) X.env := by rfl)
    (hfew : ((backTo pos (starEach (a :: []) X.env)).all (fun x => !x.1) && (backToKw pos (keywordEach [] X.env)).all (fun x => x.1.isSome) && decide (([a] : List Expr).length + ([] : List Keyword).length + (if ([] : List Keyword).isEmpty then 0 else 1) < 30)) = true := by rfl)
    (hline : (apos.endLine == pos.line) = true := by rfl) (hpl : (backTo pos (starEach [] X.env)).any (·.1) = false := by rfl) :
    DE X W (.Call (.Attribute (.Name x p) "append" apos) [a] [] pos) (mAppO k m) := by
  refine ⟨PEm (pe_bm PySem.F.plainAttrs_list PySem.F.slot_list_append PySem.F.type_list_append mt_append (pe_var hN hv hd hcd) (pa_cons ha.p pa_nil he) hb hfew hline he hpl) fun σ H Q h => ?_⟩
  obtain ⟨S, e, fp, wd, p⟩ := h
  unfold mAppO at p
  split at p
  · rename_i l0 he0
    obtain ⟨v0, f0, fq, h1, h2, _⟩ := wd.take he0
    obtain ⟨a0, vs0, as0, h3, h4, h5, h6⟩ := h2
    subst h3
    refine ⟨.ref a0, h1, list_ty h5, ?_⟩
    refine TR.bind (R' := repV X.K) (k := fun y e => (match y, e[k]? with
      | .o z, some (some (.oo l)) => if l.length < lim then .ok (.v .non) (e.set k (some (.oo (l ++ [z])))) else .bad
      | _, _ => .bad)) (Q := Q) ⟨S, e, fp, wd, p⟩ fun S0 e0 fp0 S1 H1 e1 fp1 fy y w wd0 ext wd1 sep1 ry p1 => ?_
    split at p1
    · rename_i z l hk
      split at p1
      · rename_i hz
        obtain ⟨b1, ws', k1, k2, k3, k4⟩ := ry
        subst k1 k2
        obtain ⟨v1, f2, fp', g1, g2, g3, g4, g5, g6, g7⟩ := wd1.take hk
        obtain ⟨a1, vs, as, e1', e2', e3', e4'⟩ := g2
        subst e1' e2'
        rw [h1] at g1
        cases g1
        have s7 := g7 [b1] sep1
        have perm : ([b1] ++ ((a0 :: as) ++ fp')).Perm ((a0 :: (as ++ [b1])) ++ fp') := by
          have h := (List.perm_append_comm (l₁ := [b1]) (l₂ := a0 :: as)).append_right fp'
          simpa using h
        have s8 : Sep S1 H1 ((a0 :: (as ++ [b1])) ++ fp') := ⟨perm.nodup_iff.mp s7.nd, fun c hc => s7.ns c (perm.mem_iff.mpr hc), fun c hc => s7.ow c (perm.mem_iff.mpr hc)⟩
        have hab : b1 ≠ a0 := fun q => by
          subst q
          have := s7.nd
          simp at this
        have sa : Sep S1 H1 ([a0] ++ fp') := ⟨List.nodup_cons.mpr ⟨fun q => g4.apart (by simp) q, g4.app2.nd⟩, fun c hc => g4.ns c (by
            rcases List.mem_append.mp hc with q | q
            · simp at q; subst q; simp
            · exact List.mem_append_right _ q), fun c hc => g4.ow c (by
            rcases List.mem_append.mp hc with q | q
            · simp at q; subst q; simp
            · exact List.mem_append_right _ q)⟩
        obtain ⟨wd3, st3, _⟩ := g3.write (ws := vs ++ [.ref b1]) sa e3'
        have hne : ∀ c ∈ as, c ≠ a0 := fun c hc q => by
          subst q
          exact (List.nodup_cons.mp g4.app1.nd).1 hc
        have r1 := rows.stb st3 l as vs (fun c hc => upd_ne (hne c hc)) e4'
        have r2 := rows.snoc (K := X.K) (S := S1) (H := upd H1 a0 (.lst (vs ++ [.ref b1]))) (b := b1) (z := z) (ws := ws') (by rw [upd_ne hab]; exact k3) (reps.stb st3 _ _ k4) r1
        obtain ⟨fp5, wd5, sub5⟩ := wd3.put (fx := a0 :: (as ++ [b1])) (i := k) (x := .oo (l ++ [z])) (v := .ref a0) s8.upd ⟨a0, vs ++ [.ref b1], as ++ [b1], rfl, rfl, upd_same, r2⟩
        rw [set_same h1, List.set_set] at wd5
        have hin : ∀ c, c ∈ a0 :: (as ++ [b1]) ++ fp' → c ∈ [b1] ++ fp1 := fun c hc => by
          rcases List.mem_append.mp (perm.mem_iff.mpr hc) with q | q
          · exact List.mem_append_left _ q
          · rcases List.mem_append.mp q with q | q
            · exact List.mem_append_right _ (g5 c q)
            · exact List.mem_append_right _ (g6 c q)
        refine ⟨a0, vs, .ref b1, rfl, rfl, e3', by rw [← e4'.length.1, ← lim_eq]; exact hz, p1 S1 _ fp5 [] _ ⟨fun c o hc hm => ?_, fun c hc => ext.fresh c (hin c (sub5 c (by simpa using hc))), ext.mono, ext.sfr⟩ wd5 (by simpa using wd5.sep) ⟨rfl, rep_non⟩⟩
        rw [upd_ne (fun q => by
          subst q
          rcases ext.fresh c (hin c (by simp)) with q | q
          · exact hm q
          · rw [q] at hc; cases hc)]
        exact ext.keep c o hc hm
      · exact p1.elim
    · exact p1.elim
  · exact p.elim
end
end Fx
end

section
set_option Elab.async false
set_option linter.all false
set_option maxRecDepth 100000
set_option maxHeartbeats 4000000
/-! Wrg: list(range(a, b)), tuple(range(..)). -/
namespace Fx
open PySem PySem.Spec PyProof.Rows L2
section
variable {X : Cx} {e : Expr} {te : L2.St → Hp → (Int → Int → Hp → Prop) → Prop}
def tTupRgF (te : L2.St → Hp → (Int → Int → Hp → Prop) → Prop) : TE := fun σ H Q => te σ H fun a b H1 => RgOk a b ∧ newT H1 Q (rgV a b)
theorem pe_tupRgF {p pos : Pos} (hc : X.calm = true) (hg : Gl X "tuple") (hm : X.mg "tuple" = none) (he : PRg X e te) (na : starEach [e] X.env = (false, eval e X.env) :: starEach [] X.env := by rfl) : PE X (.Call (.Name "tuple" p) [e] [] pos) (tTupRgF te) := by
  refine ⟨fun pins s σ H Q I h => ?_⟩
  refine Call_ (ld_blt I hg hm boot_tuple (PyProof.Rows.callWith_type1 (args_cons (thn (he pins s σ H _ I h) fun x s1 ⟨r, a, b, t, u, v, H1, ex, hr, I1, ok, q⟩ => args_nil ?_) na) na))
  subst ex
  obtain ⟨b1, b2, b3, b4, b5⟩ := ok
  refine call_tuple_range (n := (b - a).toNat) (I1.ok.hd hc) hr (small_one b1 b2 b3 b4) (rangeSize_nat a b) b5 fun h' tk acc hk hi => ?_
  have I2 : Inv X pins σ H1 { s1 with heap := h', toks := tk } := I1.kept hk
  have := q.fin (t' := tk) I2 (vals_rg hi) (by rw [rgV_length, sizeLine_eq]; omega)
  simpa [mkT, Array.toArray_toList] using this
end
section
variable {X : Cx} {W : WX} {a b c : Expr} {pos : Pos} {m n : M Vl}
theorem de_lr2 {p p2 p3 pos2 : Pos} (hc : X.calm = true) (ha : DE X W a m) (hb : DE X W b n) (hml : X.mg "list" = none) (hmr : X.mg "range" = none) (hgl : Gl X "list" := by rfl) (hgr : Gl X "range" := by rfl) (na : starEach [a, b] X.env = (false, eval a X.env) :: starEach [b] X.env := by rfl) (nb1 : starEach [b] X.env = (false, eval b X.env) :: starEach [] X.env := by rfl) (hp : (backTo p3 (starEach [b] X.env)).any (·.1) = false := by rfl)
    (nb : starEach [.Call (.Name "range" p) [a, b] [] p3] X.env = (false, eval (.Call (.Name "range" p) [a, b] [] p3) X.env) :: starEach [] X.env := by rfl) : DE X W (.Call (.Name "list" p2) [.Call (.Name "range" p) [a, b] [] p3] [] pos2) (eLr2 m n) := by
  refine ⟨PEm (pe_listRg hc hgl hml (prg_2 hgr hmr ha.p hb.p na nb1 hp) nb) fun σ H Q h => ?_⟩
  refine TR.bind (R' := repV X.K) (k := fun x e => (n e).then fun y e => kLr2 x y e) (Q := Q) h fun S e fp S1 H1 e1 fp1 fx x v wd ext wd1 sep1 rx p => ?_
  refine TR.next (R' := repV X.K) (k := fun y e => kLr2 x y e) wd1 ext sep1 p fun S2 H2 e2 fp2 fy y u ext2 st keep wd2 sep2 ry p2 => ?_
  have rx2 : repV X.K S2 H2 x fx v := rx.stb st keep
  unfold kLr2 at p2
  split at p2
  · rename_i i j
    split at p2
    · rename_i hj
      have hx := rep_v rx2
      have hy := rep_v ry
      unfold rep at hx hy
      unfold rgOk lim at hj
      simp only [Bool.and_eq_true, decide_eq_true_eq] at hj
      obtain ⟨⟨h12, h34⟩, h5⟩ := hj
      obtain ⟨h1, h2⟩ := small_of h12
      obtain ⟨h3, h4⟩ := small_of h34
      have hr := rg_reps (K := X.K) (S := S2) (H := H2) i (j - i).toNat
      have e0 : rgV i j = (List.range (j - i).toNat).map fun z => V.int (i + (z : Nat)) := rfl
      have ext' : Ext S H fp S2 H2 fp2 := ext2.drop.drop
      refine ⟨i, j, hx, hy, ⟨by omega, by omega, by omega, by omega, by omega⟩, fun q hq => ?_⟩
      rw [e0]
      obtain ⟨k, fr, sp, rt⟩ := fresh_lst hr hq wd2.dom
      exact p2 S2 _ fp2 [q] _ (ext'.grow k fr) (wd2.grow k) (wd2.sep.grow sp k fr) rt
    · exact p2.elim
  · exact p2.elim
theorem de_tr1 {p p2 p3 pos2 : Pos} (hc : X.calm = true) (ha : DE X W a m) (hml : X.mg "tuple" = none) (hmr : X.mg "range" = none) (hgl : Gl X "tuple" := by rfl) (hgr : Gl X "range" := by rfl) (na : starEach [a] X.env = (false, eval a X.env) :: starEach [] X.env := by rfl)
    (nb : starEach [.Call (.Name "range" p) [a] [] p3] X.env = (false, eval (.Call (.Name "range" p) [a] [] p3) X.env) :: starEach [] X.env := by rfl) : DE X W (.Call (.Name "tuple" p2) [.Call (.Name "range" p) [a] [] p3] [] pos2) (eTr1 m) := by
  refine ⟨PEm (pe_tupRgF hc hgl hml (prg_1 hgr hmr ha.p na) nb) fun σ H Q h => ?_⟩
  refine TR.bind (R' := repV X.K) (k := kTr1) (Q := Q) h fun S e fp S1 H1 e1 fp1 fx x v wd ext wd1 sep1 rx p => ?_
  unfold kTr1 at p
  split at p
  · rename_i j
    split at p
    · rename_i hj
      have hx := rep_v rx
      unfold rep at hx
      unfold rgOk lim at hj
      simp only [Bool.and_eq_true, decide_eq_true_eq] at hj
      obtain ⟨⟨h12, h34⟩, h5⟩ := hj
      obtain ⟨h1, h2⟩ := small_of h12
      obtain ⟨h3, h4⟩ := small_of h34
      refine ⟨j, hx, ⟨by omega, by omega, by omega, by omega, by omega⟩, fun q ob hq ho => ?_⟩
      have hr := rg_reps (K := X.K) (S := S1) (H := H1) 0 j.toNat
      have e0 : rgV 0 j = (List.range j.toNat).map fun i => V.int (0 + (i : Nat)) := by unfold rgV; rw [show (j - 0).toNat = j.toNat by omega]
      rw [e0]
      obtain ⟨k, rt⟩ := fresh_tup hr hq ho
      exact p S1 _ fp1 [] _ (ext.drop.grow k (fun a q => absurd q (by simp))) (wd1.grow k) (wd1.grow k).sep ⟨rfl, rt⟩
    · exact p.elim
  · exact p.elim
theorem de_tr2 {p p2 p3 pos2 : Pos} (hc : X.calm = true) (ha : DE X W a m) (hb : DE X W b n) (hml : X.mg "tuple" = none) (hmr : X.mg "range" = none) (hgl : Gl X "tuple" := by rfl) (hgr : Gl X "range" := by rfl) (na : starEach [a, b] X.env = (false, eval a X.env) :: starEach [b] X.env := by rfl) (nb1 : starEach [b] X.env = (false, eval b X.env) :: starEach [] X.env := by rfl) (hp : (backTo p3 (starEach [b] X.env)).any (·.1) = false := by rfl)
    (nb : starEach [.Call (.Name "range" p) [a, b] [] p3] X.env = (false, eval (.Call (.Name "range" p) [a, b] [] p3) X.env) :: starEach [] X.env := by rfl) : DE X W (.Call (.Name "tuple" p2) [.Call (.Name "range" p) [a, b] [] p3] [] pos2) (eTr2 m n) := by
  refine ⟨PEm (pe_tupRgF hc hgl hml (prg_2 hgr hmr ha.p hb.p na nb1 hp) nb) fun σ H Q h => ?_⟩
  refine TR.bind (R' := repV X.K) (k := fun x e => (n e).then fun y e => kTr2 x y e) (Q := Q) h fun S e fp S1 H1 e1 fp1 fx x v wd ext wd1 sep1 rx p => ?_
  refine TR.next (R' := repV X.K) (k := fun y e => kTr2 x y e) wd1 ext sep1 p fun S2 H2 e2 fp2 fy y u ext2 st keep wd2 sep2 ry p2 => ?_
  have rx2 : repV X.K S2 H2 x fx v := rx.stb st keep
  unfold kTr2 at p2
  split at p2
  · rename_i i j
    split at p2
    · rename_i hj
      have hx := rep_v rx2
      have hy := rep_v ry
      unfold rep at hx hy
      unfold rgOk lim at hj
      simp only [Bool.and_eq_true, decide_eq_true_eq] at hj
      obtain ⟨⟨h12, h34⟩, h5⟩ := hj
      obtain ⟨h1, h2⟩ := small_of h12
      obtain ⟨h3, h4⟩ := small_of h34
      have hr := rg_reps (K := X.K) (S := S2) (H := H2) i (j - i).toNat
      have e0 : rgV i j = (List.range (j - i).toNat).map fun z => V.int (i + (z : Nat)) := rfl
      have ext' : Ext S H fp S2 H2 fp2 := ext2.drop.drop
      refine ⟨i, j, hx, hy, ⟨by omega, by omega, by omega, by omega, by omega⟩, fun q ob hq ho => ?_⟩
      rw [e0]
      obtain ⟨k, rt⟩ := fresh_tup hr hq ho
      exact p2 S2 _ fp2 [] _ (ext'.grow k (fun a q => absurd q (by simp))) (wd2.grow k) (wd2.grow k).sep ⟨rfl, rt⟩
    · exact p2.elim
  · exact p2.elim
end
end Fx
end

section
set_option maxRecDepth 100000
set_option maxHeartbeats 4000000
set_option linter.all false
/-! LAW_D: the defs of a law as plain functions (written by gen.py). -/
namespace Fx
namespace G
/-- is_integer: value 0 -/
def c_is_integer : C :=
  (sRet (eAnd (e1 (oIsA .tInt) (eP 0)) (e1 oNot (e1 (oIsA .tBool) (eP 0)))))
def F_is_integer : F := runDef 1 [] c_is_integer
/-- check_table: table 0, row 1, at 2, each 3, to 4 -/
def c_check_table : C :=
  (sSeq (sIf (tOr (tNot (tT (e1 (oIsA .tTuple) (eP 0)))) (tNot (tB (eChain oLe oLe (eC (.int 1)) (e1 oLen (eP 0)) (eC (.int 8)))))) (sRaise "TableError" (eC (.str "many"))) sNil)
  (sSeq (sFor (iL (eV 0)) (gN 1) (sSeq (sIf (tOr (tNot (tT (e1 (oIsA .tTuple) (eP 1)))) (tB (e2 oNe (e1 oLen (eP 1)) (e1 oLen (eP 0))))) (sRaise "TableError" (eC (.str "row"))) sNil)
  (sIf (tT (e1 oAny (eComp [3] (iL (eV 1)) (gN 3) tYes (eOr (e1 oNot (eCall F_is_integer [.va (eV 3)])) (e1 oNot (eChain oLe oLe (eC (.int 0)) (eV 3) (eC (.int 1000)))))))) (sRaise "TableError" (eC (.str "row"))) sNil)))
  (sFor (iEnum (eV 0)) (gT [(gN 2), (gN 1)]) (sIf (tOr (tB (e2 oNe (eIxP 1 (eV 2)) (eC (.int 0)))) (tT (e1 oAny (eComp [4] (iR1 (eV 2)) (gN 4) tYes (e2 oNe (eIxP 1 (eV 4)) (e2 oIx (eIxP 0 (eV 4)) (eV 2))))))) (sRaise "TableError" (eC (.str "even"))) sNil))))
def F_check_table : F := runDef 5 [] c_check_table
/-- choices: many 0, size 1, found 2, turn 3, row 4, each 5 -/
def c_choices : C :=
  (sSeq (sSet 2 (eLst (eCons (eTup eNil) eNil)))
  (sSeq (sFor (iR1 (eV 1)) (gN 3) (sSet 2 (eComp2 [4, 5] [5] (iL (eV 2)) (gN 4) tYes (iR2 (eIf (tT (eP 4)) (e2 oAdd (eIxP 4 (e1 oNeg (eC (.int 1)))) (eC (.int 1))) (eC (.int 0))) (eV 0)) (gN 5) tYes (e2 oAdd (eV 4) (eTup (eCons (eV 5) eNil))))))
  (sRet (eV 2))))
def F_choices : F := runDef 6 [] c_choices
/-- distance_paper: table 0, one 1, other 2, third 3 -/
def c_distance_paper : C :=
  (sSeq (sDrop (eCall F_check_table [.va (eV 0)]))
  (sSeq (sFor (iL (eCall F_choices [.va (e1 oLen (eP 0)), .va (eC (.int 2))])) (gT [(gN 1), (gN 2)]) (sIf (tB (e2 oEq (e2 oIx (eIxP 0 (eV 1)) (eV 2)) (eC (.int 0)))) (sRet (eTup (eCons (eC (.str "same")) (eCons (eV 1) (eCons (eV 2) eNil))))) sNil))
  (sSeq (sFor (iL (eCall F_choices [.va (e1 oLen (eP 0)), .va (eC (.int 2))])) (gT [(gN 1), (gN 2)]) (sFor (iR1 (e1 oLen (eP 0))) (gN 3) (sIf (tB (e2 oLt (e2 oAdd (e2 oIx (eIxP 0 (eV 1)) (eV 3)) (e2 oIx (eIxP 0 (eV 3)) (eV 2))) (e2 oIx (eIxP 0 (eV 1)) (eV 2)))) (sRet (eTup (eCons (eC (.str "short")) (eCons (eV 1) (eCons (eV 3) (eCons (eV 2) eNil)))))) sNil)))
  (sRet (eTup (eCons (eC (.str "distances")) eNil))))))
def F_distance_paper : F := runDef 4 [] c_distance_paper
/-- check_distances: table 0 -/
def c_check_distances : C :=
  (sIf (tB (e2 oNe (eCall F_distance_paper [.va (eV 0)]) (eTup (eCons (eC (.str "distances")) eNil)))) (sRaise "TableError" (eC (.str "distances"))) sNil)
def F_check_distances : F := runDef 1 [] c_check_distances
/-- check_row: table 0, row 1, each 2 -/
def c_check_row : C :=
  (sSeq (sIf (tOr (tNot (tT (e1 (oIsA .tTuple) (eP 1)))) (tB (e2 oNe (e1 oLen (eP 1)) (e1 oLen (eP 0))))) (sRaise "TableError" (eC (.str "row"))) sNil)
  (sIf (tT (e1 oAny (eComp [2] (iL (eV 1)) (gN 2) tYes (eOr (e1 oNot (eCall F_is_integer [.va (eV 2)])) (e1 oNot (eChain oLt oLe (eC (.int 0)) (eV 2) (eC (.int 1000)))))))) (sRaise "TableError" (eC (.str "row"))) sNil))
def F_check_row : F := runDef 3 [] c_check_row
/-- more_paper: table 0, row 1, one 2, other 3 -/
def c_more_paper : C :=
  (sSeq (sDrop (eCall F_check_distances [.va (eV 0)]))
  (sSeq (sDrop (eCall F_check_row [.va (eV 0), .va (eV 1)]))
  (sSeq (sFor (iL (eCall F_choices [.va (e1 oLen (eP 0)), .va (eC (.int 2))])) (gT [(gN 2), (gN 3)]) (sSeq (sIf (tB (e2 oLt (e2 oAdd (eIxP 1 (eV 2)) (eIxP 1 (eV 3))) (e2 oIx (eIxP 0 (eV 2)) (eV 3)))) (sRet (eTup (eCons (eC (.str "sum")) (eCons (eV 2) (eCons (eV 3) eNil))))) sNil)
  (sIf (tB (e2 oGt (e1 oAbs (e2 oSub (eIxP 1 (eV 2)) (eIxP 1 (eV 3)))) (e2 oIx (eIxP 0 (eV 2)) (eV 3)))) (sRet (eTup (eCons (eC (.str "gap")) (eCons (eV 2) (eCons (eV 3) eNil))))) sNil)))
  (sRet (eTup (eCons (eC (.str "fits")) eNil))))))
def F_more_paper : F := runDef 4 [] c_more_paper
/-- with_point: table 0, row 1, at 2, line 3 -/
def c_with_point : C :=
  (sSeq (sIf (tB (e2 oNe (eCall F_more_paper [.va (eV 0), .va (eV 1)]) (eTup (eCons (eC (.str "fits")) eNil)))) (sRaise "TableError" (eC (.str "fits"))) sNil)
  (sRet (e2 oAdd (e1 oTuple (eComp [2, 3] (iEnum (eV 0)) (gT [(gN 2), (gN 3)]) tYes (e2 oAdd (eV 3) (eTup (eCons (eIxP 1 (eV 2)) eNil))))) (eTup (eCons (e2 oAdd (eV 1) (eTup (eCons (eC (.int 0)) eNil))) eNil)))))
def F_with_point : F := runDef 4 [] c_with_point
/-- check_shared: table 0, other 1, many 2, one 3, two 4 -/
def c_check_shared : C :=
  (sSeq (sDrop (eCall F_check_distances [.va (eV 0)]))
  (sSeq (sDrop (eCall F_check_distances [.va (eV 1)]))
  (sSeq (sIf (tOr (tNot (tT (eCall F_is_integer [.va (eV 2)]))) (tNot (tB (eChain oLe oLe (eC (.int 1)) (eV 2) (e2 oMin2 (e1 oLen (eP 0)) (e1 oLen (eP 1))))))) (sRaise "TableError" (eC (.str "shared"))) sNil)
  (sSeq (sIf (tT (e1 oAny (eComp2 [3, 4] [4] (iR1 (eV 2)) (gN 3) tYes (iR1 (eV 2)) (gN 4) tYes (e2 oNe (e2 oIx (eIxP 0 (eV 3)) (eV 4)) (e2 oIx (eIxP 1 (eV 3)) (eV 4)))))) (sRaise "TableError" (eC (.str "shared"))) sNil)
  (sIf (tB (e2 oGt (e2 oSub (e2 oAdd (e1 oLen (eP 0)) (e1 oLen (eP 1))) (eV 2)) (eC (.int 8)))) (sRaise "TableError" (eC (.str "many"))) sNil)))))
def F_check_shared : F := runDef 5 [] c_check_shared
/-- step: table 0, other 1, many 2, one 3, to 4, at 5 -/
def c_step : C :=
  (sRet (e1 oMinL (eComp [5] (iR1 (eV 2)) (gN 5) tYes (e2 oAdd (e2 oIx (eIxP 0 (eV 3)) (eV 5)) (e2 oIx (eIxP 1 (eV 5)) (eV 4))))))
def F_step : F := runDef 6 [] c_step
/-- glued: table 0, other 1, many 2, size 3, rows 4, one 5, to 6, row 7 -/
def c_glued : C :=
  (sSeq (sDrop (eCall F_check_shared [.va (eV 0), .va (eV 1), .va (eV 2)]))
  (sSeq (sSet 3 (e1 oLen (eP 0)))
  (sSeq (sSet 4 (eCompO [7] (iL (eV 0)) (gN 7) tYes (e1 oList (eP 7))))
  (sSeq (sFor (iR1 (eV 3)) (gN 5) (sAugIx 4 (nV 5) (eComp [6] (iR2 (eV 2) (e1 oLen (eP 1))) (gN 6) tYes (eCall F_step [.va (eV 0), .va (eV 1), .va (eV 2), .va (eV 5), .va (eV 6)]))))
  (sSeq (sFor (iR2 (eV 2) (e1 oLen (eP 1))) (gN 6) (sDrop (mAppO 4 (e2 oAdd (eComp [5] (iR1 (eV 3)) (gN 5) tYes (eCall F_step [.va (eV 0), .va (eV 1), .va (eV 2), .va (eV 5), .va (eV 6)])) (e1 oList (eCut (eIxP 1 (eV 6)) (pSome (eV 2)) pNo))))))
  (sRet (e1 oTuple (eComp [7] (iL (eV 4)) (gN 7) tYes (e1 oTuple (eP 7))))))))))
def F_glued : F := runDef 8 [] c_glued
/-- gap: table 0, other 1, many 2, one 3, to 4, at 5 -/
def c_gap : C :=
  (sRet (e1 oMaxL (eComp [5] (iR1 (eV 2)) (gN 5) tYes (e1 oAbs (e2 oSub (e2 oIx (eIxP 0 (eV 3)) (eV 5)) (e2 oIx (eIxP 1 (eV 5)) (eV 4)))))))
def F_gap : F := runDef 6 [] c_gap
/-- least_glued: table 0, other 1, many 2, size 3, rows 4, one 5, to 6, row 7 -/
def c_least_glued : C :=
  (sSeq (sDrop (eCall F_check_shared [.va (eV 0), .va (eV 1), .va (eV 2)]))
  (sSeq (sSet 3 (e1 oLen (eP 0)))
  (sSeq (sSet 4 (eCompO [7] (iL (eV 0)) (gN 7) tYes (e1 oList (eP 7))))
  (sSeq (sFor (iR1 (eV 3)) (gN 5) (sAugIx 4 (nV 5) (eComp [6] (iR2 (eV 2) (e1 oLen (eP 1))) (gN 6) tYes (eCall F_gap [.va (eV 0), .va (eV 1), .va (eV 2), .va (eV 5), .va (eV 6)]))))
  (sSeq (sFor (iR2 (eV 2) (e1 oLen (eP 1))) (gN 6) (sDrop (mAppO 4 (e2 oAdd (eComp [5] (iR1 (eV 3)) (gN 5) tYes (eCall F_gap [.va (eV 0), .va (eV 1), .va (eV 2), .va (eV 5), .va (eV 6)])) (e1 oList (eCut (eIxP 1 (eV 6)) (pSome (eV 2)) pNo))))))
  (sRet (e1 oTuple (eComp [7] (iL (eV 4)) (gN 7) tYes (e1 oTuple (eP 7))))))))))
def F_least_glued : F := runDef 8 [] c_least_glued
/-- _law_begin: script 0, seed 1, cell 2 -/
def c__law_begin : C :=
  (sSeq (sSet 1 (eC (.int 5)))
  (sSeq (sFor (iL (eV 0)) (gN 2) (sSet 1 (e2 oMod (e2 oAdd (e2 oAdd (e2 oMul (eV 1) (eC (.int 48271))) (e2 oMod (e1 oInt (eP 2)) (eC (.int 2147483629)))) (eC (.int 11))) (eC (.int 2147483647)))))
  (sRet (eLst (eCons (e1 oList (eP 0)) (eCons (eC (.int 0)) (eCons (eC (.int 0)) (eCons (eV 1) eNil))))))))
def F__law_begin : F := runDef 3 [] c__law_begin
/-- _law_take: d 0, many 1, small 2, digit 3 -/
def c__law_take : C :=
  (sSeq (sIf (tAnd (tB (e2 oEq (eIxP 0 (eC (.int 2))) (eC (.int 0)))) (tB (e2 oLt (eIxP 0 (eC (.int 1))) (e1 oLen (eIxP 0 (eC (.int 0))))))) (sSeq (sTo (gIx 0 (nI 2)) (e1 oAbs (e1 oInt (e2 oIx (eIxP 0 (eC (.int 0))) (eIxP 0 (eC (.int 1)))))))
  (sSeq (sTo (gIx 0 (nI 1)) (e2 oAdd (eIxP 0 (eC (.int 1))) (eC (.int 1))))
  (sIf (tB (e2 oLt (eIxP 0 (eC (.int 2))) (e2 oPow (eC (.int 10)) (eC (.int 18))))) (sSeq (sSet 2 (e1 oInt (eIxP 0 (eC (.int 2)))))
  (sSeq (sTo (gIx 0 (nI 2)) (eC (.int 0)))
  (sRet (e2 oMod (eV 2) (eV 1))))) sNil))) sNil)
  (sSeq (sIf (tB (e2 oGt (eIxP 0 (eC (.int 2))) (eC (.int 0)))) (sSeq (sSet 3 (e2 oMod (e1 oInt (eIxP 0 (eC (.int 2)))) (eV 1)))
  (sSeq (sTo (gIx 0 (nI 2)) (e2 oDiv (e1 oInt (eIxP 0 (eC (.int 2)))) (eV 1)))
  (sRet (eV 3)))) sNil)
  (sSeq (sTo (gIx 0 (nI 3)) (e2 oMod (e1 oInt (e2 oAdd (e2 oMul (eIxP 0 (eC (.int 3))) (eC (.int 69621))) (eC (.int 7)))) (eC (.int 2147483647))))
  (sRet (e2 oMod (e1 oInt (e2 oDiv (eIxP 0 (eC (.int 3))) (eC (.int 5)))) (eV 1))))))
def F__law_take : F := runDef 4 [0] c__law_take
/-- _law_shuffled: d 0, n 1, rest 2, k 3 -/
def c__law_shuffled : C :=
  (sSeq (sSet 2 (eLr1 (eV 1)))
  (sRet (e1 oTuple (eComp [3] (iR1 (eV 1)) (gN 3) tYes (mPop 2 (eCall F__law_take [.lent 0, .va (e1 oLen (eP 2))]))))))
def F__law_shuffled : F := runDef 4 [0] c__law_shuffled
/-- _law_tree: d 0, n 1, more 2, top 3, joints 4, names 5, edges 6, k 7, a 8 -/
def c__law_tree : C :=
  (sSeq (sSet 4 (e2 oAdd (eV 1) (eCall F__law_take [.lent 0, .va (e2 oAdd (eV 2) (eC (.int 1)))])))
  (sSeq (sSet 5 (eCall F__law_shuffled [.lent 0, .va (eV 4)]))
  (sSeq (sSet 6 (eLst eNil))
  (sSeq (sFor (iR2 (eC (.int 1)) (eV 4)) (gN 7) (sSeq (sSet 8 (eIxP 5 (eCall F__law_take [.lent 0, .va (eV 7)])))
  (sDrop (mApp 6 (eTup (eCons (e2 oMin2 (eV 8) (eIxP 5 (eV 7))) (eCons (e2 oMax2 (eV 8) (eIxP 5 (eV 7))) (eCons (e2 oAdd (eC (.int 1)) (eCall F__law_take [.lent 0, .va (eV 3)])) eNil))))))))
  (sRet (eLst (eCons (eV 4) (eCons (e1 oTuple (e1 oSort (eP 6))) eNil))))))))
def F__law_tree : F := runDef 9 [0] c__law_tree
/-- _law_along: joints 0, edges 1, far 2, i 3, turn 4, a 5, b 6, size 7, j 8 -/
def c__law_along : C :=
  (sSeq (sSet 2 (eCompO [3] (iR1 (eV 0)) (gN 3) tYes (eComp [8] (iR1 (eV 0)) (gN 8) tYes (eIf (tB (e2 oEq (eV 3) (eV 8))) (eC (.int 0)) (eC .non)))))
  (sSeq (sFor (iR1 (eV 0)) (gN 3) (sFor (iR1 (eV 0)) (gN 4) (sFor (iL (eV 1)) (gT [(gN 5), (gN 6), (gN 7)]) (sSeq (sIf (tAnd (tB (e2 oIsNot (eIxPP 2 (nV 3) (nV 5)) (eC .non))) (tB (e2 oIs (eIxPP 2 (nV 3) (nV 6)) (eC .non)))) (sTo (gIx2 2 (nV 3) (nV 6)) (e2 oAdd (eIxPP 2 (nV 3) (nV 5)) (eV 7))) sNil)
  (sIf (tAnd (tB (e2 oIsNot (eIxPP 2 (nV 3) (nV 6)) (eC .non))) (tB (e2 oIs (eIxPP 2 (nV 3) (nV 5)) (eC .non)))) (sTo (gIx2 2 (nV 3) (nV 5)) (e2 oAdd (eIxPP 2 (nV 3) (nV 6)) (eV 7))) sNil)))))
  (sRet (eV 2))))
def F__law_along : F := runDef 9 [] c__law_along
/-- _law_table: d 0, n 1, top 2, rows 3, i 4, j 5, k 6, row 7 -/
def c__law_table : C :=
  (sSeq (sSet 3 (eCompO [6] (iR1 (eV 1)) (gN 6) tYes (e2 oMul (eLst (eCons (eC (.int 0)) eNil)) (eV 1))))
  (sSeq (sFor (iR1 (eV 1)) (gN 4) (sFor (iR1 (eV 4)) (gN 5) (sSeq (sTo (gIx2 3 (nV 4) (nV 5)) (e2 oAdd (eC (.int 1)) (eCall F__law_take [.lent 0, .va (eV 2)])))
  (sTo (gIx2 3 (nV 5) (nV 4)) (eIxPP 3 (nV 4) (nV 5))))))
  (sRet (e1 oTuple (eComp [7] (iL (eV 3)) (gN 7) tYes (e1 oTuple (eP 7)))))))
def F__law_table : F := runDef 8 [0] c__law_table
/-- _law_short: table 0, n 1, rows 2, k 3, i 4, j 5, row 6 -/
def c__law_short : C :=
  (sSeq (sSet 1 (e1 oLen (eP 0)))
  (sSeq (sSet 2 (eCompO [6] (iL (eV 0)) (gN 6) tYes (e1 oList (eP 6))))
  (sSeq (sFor (iR1 (eV 1)) (gN 3) (sFor (iR1 (eV 1)) (gN 4) (sFor (iR1 (eV 1)) (gN 5) (sTo (gIx2 2 (nV 4) (nV 5)) (e2 oMin2 (eIxPP 2 (nV 4) (nV 5)) (e2 oAdd (eIxPP 2 (nV 4) (nV 3)) (eIxPP 2 (nV 3) (nV 5))))))))
  (sRet (e1 oTuple (eComp [6] (iL (eV 2)) (gN 6) tYes (e1 oTuple (eP 6))))))))
def F__law_short : F := runDef 7 [] c__law_short
/-- _law_pick: d 0, menu 1 -/
def c__law_pick : C :=
  (sRet (eIxP 1 (eCall F__law_take [.lent 0, .va (e1 oLen (eP 1))])))
def F__law_pick : F := runDef 2 [0] c__law_pick
/-- _law_distances: d 0, n 1, menu 2, joints 3, edges 4, far 5, rows 6, k 7, i 8, j 9, row 10 -/
def c__law_distances : C :=
  (sSeq (sSet 2 (eCall F__law_take [.lent 0, .va (eC (.int 5))]))
  (sSeq (sIf (tB (e2 oEq (eV 2) (eC (.int 0)))) (sSeq (sTo (gL [(gN 3), (gN 4)]) (eCall F__law_tree [.lent 0, .va (eV 1), .va (eC (.int 3)), .va (eC (.int 5))]))
  (sSeq (sSet 5 (eCall F__law_along [.va (eV 3), .va (eV 4)]))
  (sRet (e1 oTuple (eComp [10] (iL (eCut (eV 5) pNo (pSome (eV 1)))) (gN 10) tYes (e1 oTuple (eCut (eV 10) pNo (pSome (eV 1))))))))) sNil)
  (sSeq (sIf (tB (e2 oEq (eV 2) (eC (.int 1)))) (sSeq (sSet 6 (eCompO [10] (iL (eCall F__law_table [.lent 0, .va (eV 1), .va (eC (.int 9))])) (gN 10) tYes (e1 oList (eP 10))))
  (sSeq (sFor (iR1 (eV 1)) (gN 7) (sFor (iR1 (eV 1)) (gN 8) (sFor (iR1 (eV 1)) (gN 9) (sTo (gIx2 6 (nV 8) (nV 9)) (e2 oMin2 (eIxPP 6 (nV 8) (nV 9)) (e2 oMax2 (eIxPP 6 (nV 8) (nV 7)) (eIxPP 6 (nV 7) (nV 9))))))))
  (sRet (e1 oTuple (eComp [10] (iL (eV 6)) (gN 10) tYes (e1 oTuple (eP 10))))))) sNil)
  (sRet (eCall F__law_short [.va (eCall F__law_table [.lent 0, .va (eV 1), .va (eCall F__law_pick [.lent 0, .va (eLst (eCons (eC (.int 1)) (eCons (eC (.int 2)) (eCons (eC (.int 4)) (eCons (eC (.int 9)) (eCons (eC (.int 30)) eNil))))))])])])))))
def F__law_distances : F := runDef 11 [0] c__law_distances
/-- _law_part: table 0, part 1, i 2, j 3 -/
def c__law_part : C :=
  (sRet (e1 oTuple (eComp [2] (iL (eV 1)) (gN 2) tYes (e1 oTuple (eComp [3] (iL (eV 1)) (gN 3) tYes (e2 oIx (eIxP 0 (eV 2)) (eV 3)))))))
def F__law_part : F := runDef 4 [] c__law_part
/-- law: script 0, d 1, n 2, table 3, less 4, row 5, k 6, rest 7, one 8, other 9, first 10, second 11, both 12, low 13, names 14, i 15, j 16, x 17, y 18, turned 19, order 20, back 21, base 22, wide 23, made 24, each 25, s 26 -/
def c_law : C :=
  (sSeq (sSet 1 (eCall F__law_begin [.va (eV 0)]))
  (sSeq (sSet 2 (e2 oAdd (eC (.int 2)) (eCall F__law_take [.lent 1, .va (eC (.int 5))])))
  (sSeq (sSet 3 (eCall F__law_distances [.lent 1, .va (eV 2)]))
  (sSeq (sSet 4 (eCall F__law_part [.va (eV 3), .va (eLr1 (e2 oSub (eV 2) (eC (.int 1))))]))
  (sSeq (sSet 5 (eCut (eIxP 3 (e2 oSub (eV 2) (eC (.int 1)))) pNo (pSome (e2 oSub (eV 2) (eC (.int 1))))))
  (sSeq (sIf (tOr (tB (e2 oNe (eCall F_more_paper [.va (eV 4), .va (eV 5)]) (eTup (eCons (eC (.str "fits")) eNil)))) (tB (e2 oNe (eCall F_with_point [.va (eV 4), .va (eV 5)]) (eV 3)))) (sRet (eC (.bl false))) sNil)
  (sSeq (sIf (tOr (tB (e2 oNe (eCall F_glued [.va (eV 3), .va (eV 3), .va (eV 2)]) (eV 3))) (tB (e2 oNe (eCall F_least_glued [.va (eV 3), .va (eV 3), .va (eV 2)]) (eV 3)))) (sRet (eC (.bl false))) sNil)
  (sSeq (sSet 6 (e2 oAdd (eC (.int 1)) (eCall F__law_take [.lent 1, .va (e2 oSub (eV 2) (eC (.int 1)))])))
  (sSeq (sSet 7 (eLr2 (eV 6) (eV 2)))
  (sSeq (sSet 8 (eComp [17] (iL (eV 7)) (gN 17) (tB (e2 oEq (eCall F__law_take [.lent 1, .va (eC (.int 2))]) (eC (.int 0)))) (eV 17)))
  (sSeq (sSet 9 (eComp [17] (iL (eV 7)) (gN 17) (tB (e2 oNotIn (eV 17) (eP 8))) (eV 17)))
  (sSeq (sSet 10 (e2 oAdd (eLr1 (eV 6)) (eV 8)))
  (sSeq (sSet 11 (e2 oAdd (eLr1 (eV 6)) (eV 9)))
  (sSeq (sSet 12 (eCall F_glued [.va (eCall F__law_part [.va (eV 3), .va (eV 10)]), .va (eCall F__law_part [.va (eV 3), .va (eV 11)]), .va (eV 6)]))
  (sSeq (sSet 13 (eCall F_least_glued [.va (eCall F__law_part [.va (eV 3), .va (eV 10)]), .va (eCall F__law_part [.va (eV 3), .va (eV 11)]), .va (eV 6)]))
  (sSeq (sSet 14 (e2 oAdd (eV 10) (eV 9)))
  (sSeq (sFor (iR1 (eV 2)) (gN 15) (sFor (iR1 (eV 2)) (gN 16) (sSeq (sSet 17 (eIxP 14 (eV 15)))
  (sSeq (sSet 18 (eIxP 14 (eV 16)))
  (sSeq (sIf (tOr (tB (e2 oLt (e2 oIx (eIxP 12 (eV 15)) (eV 16)) (e2 oIx (eIxP 3 (eV 17)) (eV 18)))) (tB (e2 oGt (e2 oIx (eIxP 13 (eV 15)) (eV 16)) (e2 oIx (eIxP 3 (eV 17)) (eV 18))))) (sRet (eC (.bl false))) sNil)
  (sIf (tAnd (tOr (tAnd (tB (e2 oIn (eV 17) (eP 10))) (tB (e2 oIn (eV 18) (eP 10)))) (tAnd (tB (e2 oIn (eV 17) (eP 11))) (tB (e2 oIn (eV 18) (eP 11))))) (tOr (tB (e2 oNe (e2 oIx (eIxP 12 (eV 15)) (eV 16)) (e2 oIx (eIxP 3 (eV 17)) (eV 18)))) (tB (e2 oNe (e2 oIx (eIxP 13 (eV 15)) (eV 16)) (e2 oIx (eIxP 3 (eV 17)) (eV 18)))))) (sRet (eC (.bl false))) sNil))))))
  (sSeq (sIf (tOr (tB (e2 oNe (eCall F_distance_paper [.va (eV 12)]) (eTup (eCons (eC (.str "distances")) eNil)))) (tB (e2 oNe (eCall F__law_part [.va (eV 12), .va (eLr1 (e1 oLen (eP 10)))]) (eCall F__law_part [.va (eV 3), .va (eV 10)])))) (sRet (eC (.bl false))) sNil)
  (sSeq (sSet 19 (eCall F_glued [.va (eCall F__law_part [.va (eV 3), .va (eV 11)]), .va (eCall F__law_part [.va (eV 3), .va (eV 10)]), .va (eV 6)]))
  (sSeq (sSet 20 (e2 oAdd (eV 11) (eV 8)))
  (sSeq (sSet 21 (eComp [17] (iL (eV 14)) (gN 17) tYes (eMetL fIx (eV 20) (eV 17))))
  (sSeq (sIf (tB (e2 oNe (eCall F__law_part [.va (eV 19), .va (eV 21)]) (eV 12))) (sRet (eC (.bl false))) sNil)
  (sSeq (sSet 22 (eCall F__law_part [.va (eV 3), .va (eLr1 (eV 6))]))
  (sSeq (sSet 23 (eComp [17] (iL (eV 7)) (gN 17) tYes (eCall F_with_point [.va (eV 22), .va (e1 oTuple (eComp [18] (iR1 (eV 6)) (gN 18) tYes (e2 oIx (eIxP 3 (eV 17)) (eV 18))))])))
  (sSeq (sIf (tAnd (tB (e2 oGt (e1 oLen (eP 23)) (eC (.int 1)))) (tB (e2 oLe (eV 2) (eC (.int 8))))) (sSeq (sSet 24 (eIxP 23 (eC (.int 0))))
  (sSeq (sFor (iL (eCut (eV 23) (pSome (eC (.int 1))) pNo)) (gN 25) (sSet 24 (eCall F_glued [.va (eV 24), .va (eV 25), .va (eV 6)])))
  (sFor (iR1 (e1 oLen (eP 7))) (gN 15) (sFor (iR1 (eV 15)) (gN 16) (sIf (tB (e2 oNe (e2 oIx (eIxP 24 (e2 oAdd (eV 6) (eV 15))) (e2 oAdd (eV 6) (eV 16))) (e1 oMinL (eComp [26] (iR1 (eV 6)) (gN 26) tYes (e2 oAdd (e2 oIx (eIxP 3 (eIxP 7 (eV 15))) (eV 26)) (e2 oIx (eIxP 3 (eV 26)) (eIxP 7 (eV 16)))))))) (sRet (eC (.bl false))) sNil))))) sNil)
  (sRet (eC (.bl true))))))))))))))))))))))))))))
def F_law : F := runDef 27 [] c_law
end G
end Fx
end

section
set_option Elab.async false
set_option maxRecDepth 100000
set_option maxHeartbeats 4000000
set_option linter.all false
/-! LAW_T: the text computes them (written by gen.py). -/
namespace Fx
namespace G
open PySem PySem.Spec PyProof.Rows L2
def topS (i : Nat) : Stmt := PySem.Challenge.pw_farandnear_k56_whole_tables_taken_apart.main.body.getD i (.Pass ⟨0, 0, 0, 0⟩)
abbrev s_is_integer : Stmt := topS 4
theorem sc_is_integer : FnScope ["value"] ["value"] (defScope s_is_integer) := ⟨rfl, rfl, rfl, by decide +kernel, rfl, by decide +kernel, by decide +kernel⟩
abbrev s_check_table : Stmt := topS 8
theorem sc_check_table : FnScope ["table", "row", "at", "each", "to"] ["table"] (defScope s_check_table) := ⟨rfl, rfl, rfl, by decide +kernel, rfl, by decide +kernel, by decide +kernel⟩
abbrev s_choices : Stmt := topS 9
theorem sc_choices : FnScope ["many", "size", "found", "turn", "row", "each"] ["many", "size"] (defScope s_choices) := ⟨rfl, rfl, rfl, by decide +kernel, rfl, by decide +kernel, by decide +kernel⟩
abbrev s_distance_paper : Stmt := topS 10
theorem sc_distance_paper : FnScope ["table", "one", "other", "third"] ["table"] (defScope s_distance_paper) := ⟨rfl, rfl, rfl, by decide +kernel, rfl, by decide +kernel, by decide +kernel⟩
abbrev s_check_distances : Stmt := topS 11
theorem sc_check_distances : FnScope ["table"] ["table"] (defScope s_check_distances) := ⟨rfl, rfl, rfl, by decide +kernel, rfl, by decide +kernel, by decide +kernel⟩
abbrev s_check_row : Stmt := topS 13
theorem sc_check_row : FnScope ["table", "row", "each"] ["table", "row"] (defScope s_check_row) := ⟨rfl, rfl, rfl, by decide +kernel, rfl, by decide +kernel, by decide +kernel⟩
abbrev s_more_paper : Stmt := topS 14
theorem sc_more_paper : FnScope ["table", "row", "one", "other"] ["table", "row"] (defScope s_more_paper) := ⟨rfl, rfl, rfl, by decide +kernel, rfl, by decide +kernel, by decide +kernel⟩
abbrev s_with_point : Stmt := topS 15
theorem sc_with_point : FnScope ["table", "row", "at", "line"] ["table", "row"] (defScope s_with_point) := ⟨rfl, rfl, rfl, by decide +kernel, rfl, by decide +kernel, by decide +kernel⟩
abbrev s_check_shared : Stmt := topS 16
theorem sc_check_shared : FnScope ["table", "other", "many", "one", "two"] ["table", "other", "many"] (defScope s_check_shared) := ⟨rfl, rfl, rfl, by decide +kernel, rfl, by decide +kernel, by decide +kernel⟩
abbrev s_step : Stmt := topS 18
theorem sc_step : FnScope ["table", "other", "many", "one", "to", "at"] ["table", "other", "many", "one", "to"] (defScope s_step) := ⟨rfl, rfl, rfl, by decide +kernel, rfl, by decide +kernel, by decide +kernel⟩
abbrev s_glued : Stmt := topS 17
theorem sc_glued : FnScope ["table", "other", "many", "size", "rows", "one", "to", "row"] ["table", "other", "many"] (defScope s_glued) := ⟨rfl, rfl, rfl, by decide +kernel, rfl, by decide +kernel, by decide +kernel⟩
abbrev s_gap : Stmt := topS 20
theorem sc_gap : FnScope ["table", "other", "many", "one", "to", "at"] ["table", "other", "many", "one", "to"] (defScope s_gap) := ⟨rfl, rfl, rfl, by decide +kernel, rfl, by decide +kernel, by decide +kernel⟩
abbrev s_least_glued : Stmt := topS 19
theorem sc_least_glued : FnScope ["table", "other", "many", "size", "rows", "one", "to", "row"] ["table", "other", "many"] (defScope s_least_glued) := ⟨rfl, rfl, rfl, by decide +kernel, rfl, by decide +kernel, by decide +kernel⟩
abbrev s__law_begin : Stmt := topS 22
theorem sc__law_begin : FnScope ["script", "seed", "cell"] ["script"] (defScope s__law_begin) := ⟨rfl, rfl, rfl, by decide +kernel, rfl, by decide +kernel, by decide +kernel⟩
abbrev s__law_take : Stmt := topS 23
theorem sc__law_take : FnScope ["d", "many", "small", "digit"] ["d", "many"] (defScope s__law_take) := ⟨rfl, rfl, rfl, by decide +kernel, rfl, by decide +kernel, by decide +kernel⟩
abbrev s__law_shuffled : Stmt := topS 24
theorem sc__law_shuffled : FnScope ["d", "n", "rest", "k"] ["d", "n"] (defScope s__law_shuffled) := ⟨rfl, rfl, rfl, by decide +kernel, rfl, by decide +kernel, by decide +kernel⟩
abbrev s__law_tree : Stmt := topS 25
theorem sc__law_tree : FnScope ["d", "n", "more", "top", "joints", "names", "edges", "k", "a"] ["d", "n", "more", "top"] (defScope s__law_tree) := ⟨rfl, rfl, rfl, by decide +kernel, rfl, by decide +kernel, by decide +kernel⟩
abbrev s__law_along : Stmt := topS 26
theorem sc__law_along : FnScope ["joints", "edges", "far", "i", "turn", "a", "b", "size", "j"] ["joints", "edges"] (defScope s__law_along) := ⟨rfl, rfl, rfl, by decide +kernel, rfl, by decide +kernel, by decide +kernel⟩
abbrev s__law_table : Stmt := topS 27
theorem sc__law_table : FnScope ["d", "n", "top", "rows", "i", "j", "k", "row"] ["d", "n", "top"] (defScope s__law_table) := ⟨rfl, rfl, rfl, by decide +kernel, rfl, by decide +kernel, by decide +kernel⟩
abbrev s__law_short : Stmt := topS 28
theorem sc__law_short : FnScope ["table", "n", "rows", "k", "i", "j", "row"] ["table"] (defScope s__law_short) := ⟨rfl, rfl, rfl, by decide +kernel, rfl, by decide +kernel, by decide +kernel⟩
abbrev s__law_pick : Stmt := topS 29
theorem sc__law_pick : FnScope ["d", "menu"] ["d", "menu"] (defScope s__law_pick) := ⟨rfl, rfl, rfl, by decide +kernel, rfl, by decide +kernel, by decide +kernel⟩
abbrev s__law_distances : Stmt := topS 30
theorem sc__law_distances : FnScope ["d", "n", "menu", "joints", "edges", "far", "rows", "k", "i", "j", "row"] ["d", "n"] (defScope s__law_distances) := ⟨rfl, rfl, rfl, by decide +kernel, rfl, by decide +kernel, by decide +kernel⟩
abbrev s__law_part : Stmt := topS 31
theorem sc__law_part : FnScope ["table", "part", "i", "j"] ["table", "part"] (defScope s__law_part) := ⟨rfl, rfl, rfl, by decide +kernel, rfl, by decide +kernel, by decide +kernel⟩
abbrev s_law : Stmt := topS 32
theorem sc_law : FnScope ["script", "d", "n", "table", "less", "row", "k", "rest", "one", "other", "first", "second", "both", "low", "names", "i", "j", "x", "y", "turned", "order", "back", "base", "wide", "made", "each", "s"] ["script"] (defScope s_law) := ⟨rfl, rfl, rfl, by decide +kernel, rfl, by decide +kernel, by decide +kernel⟩
/-- what the top of the text has written -/
structure Txt (P : Program) (w : World) (K : PySem.W.Frag) (mg : Str → Option Value) (base : Heap) : Prop where
  z_abs : mg "abs" = none
  z_any : mg "any" = none
  z_bool : mg "bool" = none
  z_enumerate : mg "enumerate" = none
  z_int : mg "int" = none
  z_isinstance : mg "isinstance" = none
  z_len : mg "len" = none
  z_list : mg "list" = none
  z_max : mg "max" = none
  z_min : mg "min" = none
  z_range : mg "range" = none
  z_sorted : mg "sorted" = none
  z_super : mg "super" = none
  z_tuple : mg "tuple" = none
  k_MOST_FAR : ∃ t, mg "MOST_FAR" = some (.int 1000 t)
  k_MOST_POINTS : ∃ t, mg "MOST_POINTS" = some (.int 8 t)
  x_TableError : Xk P K mg "TableError"
  f_is_integer : Df K mg "is_integer" ["value"] s_is_integer
  f_check_table : Df K mg "check_table" ["table"] s_check_table
  f_choices : Df K mg "choices" ["many", "size"] s_choices
  f_distance_paper : Df K mg "distance_paper" ["table"] s_distance_paper
  f_check_distances : Df K mg "check_distances" ["table"] s_check_distances
  f_check_row : Df K mg "check_row" ["table", "row"] s_check_row
  f_more_paper : Df K mg "more_paper" ["table", "row"] s_more_paper
  f_with_point : Df K mg "with_point" ["table", "row"] s_with_point
  f_check_shared : Df K mg "check_shared" ["table", "other", "many"] s_check_shared
  f_step : Df K mg "step" ["table", "other", "many", "one", "to"] s_step
  f_glued : Df K mg "glued" ["table", "other", "many"] s_glued
  f_gap : Df K mg "gap" ["table", "other", "many", "one", "to"] s_gap
  f_least_glued : Df K mg "least_glued" ["table", "other", "many"] s_least_glued
  f__law_begin : Df K mg "_law_begin" ["script"] s__law_begin
  f__law_take : Df K mg "_law_take" ["d", "many"] s__law_take
  f__law_shuffled : Df K mg "_law_shuffled" ["d", "n"] s__law_shuffled
  f__law_tree : Df K mg "_law_tree" ["d", "n", "more", "top"] s__law_tree
  f__law_along : Df K mg "_law_along" ["joints", "edges"] s__law_along
  f__law_table : Df K mg "_law_table" ["d", "n", "top"] s__law_table
  f__law_short : Df K mg "_law_short" ["table"] s__law_short
  f__law_pick : Df K mg "_law_pick" ["d", "menu"] s__law_pick
  f__law_distances : Df K mg "_law_distances" ["d", "n"] s__law_distances
  f__law_part : Df K mg "_law_part" ["table", "part"] s__law_part
section
variable {P : Program} {w : World} {K : PySem.W.Frag} {mg : Str → Option Value} {base : Heap}
theorem t_is_integer (T : Txt P w K mg base) : Fk P w K mg base 3 "is_integer" ["value"] [] F_is_integer := by
    obtain ⟨fa, fd, Fn, bn, gm⟩ := T.f_is_integer.ex
    refine fk_def (c := c_is_integer) (k := 2) Fn sc_is_integer bn gm (by decide) fun cdv A outer s H E hr B hB => ?_
    obtain rfl : B = [] := by simpa using hB
    have hu : A.units + 3 + 66 < cLine := by have := hr.un; have e : (A.deeper (envOfC "is_integer" (defScope s_is_integer) s.heap.objs.size fa cdv)).units = A.units + 3 := rfl; omega
    have tk := tk_of (P := P) (w := w) (K := K) (mg := mg) (base := base) (N := ["value"]) (qual := "is_integer") (scope := defScope s_is_integer) (f := fa) (cdv := cdv) (A := A) (outer := outer) (s := s) (H := H) (E := E)
    have hp := hp_of (P := P) (w := w) (K := K) (mg := mg) (base := base) (N := ["value"]) (qual := "is_integer") (scope := defScope s_is_integer) (f := fa) (cdv := cdv) (A := A) (outer := outer) (s := s) (H := H) (E := E)
    exact (dss_one (ds_ret (de_and (de_isA .tInt (dp_v 0) T.z_isinstance T.z_int bb_isinstance bb_int) (de_one (de_not (de_isA .tBool (dp_v 0) T.z_isinstance T.z_bool bb_isinstance bb_bool))))))
theorem t_check_table (T : Txt P w K mg base) : Fk P w K mg base 4 "check_table" ["table"] [] F_check_table := by
    obtain ⟨fa, fd, Fn, bn, gm⟩ := T.f_check_table.ex
    refine fk_def (c := c_check_table) (k := 3) Fn sc_check_table bn gm (by decide) fun cdv A outer s H E hr B hB => ?_
    obtain rfl : B = [] := by simpa using hB
    have hu : A.units + 3 + 66 < cLine := by have := hr.un; have e : (A.deeper (envOfC "check_table" (defScope s_check_table) s.heap.objs.size fa cdv)).units = A.units + 3 := rfl; omega
    have tk := tk_of (P := P) (w := w) (K := K) (mg := mg) (base := base) (N := ["table", "row", "at", "each", "to"]) (qual := "check_table") (scope := defScope s_check_table) (f := fa) (cdv := cdv) (A := A) (outer := outer) (s := s) (H := H) (E := E)
    have hp := hp_of (P := P) (w := w) (K := K) (mg := mg) (base := base) (N := ["table", "row", "at", "each", "to"]) (qual := "check_table") (scope := defScope s_check_table) (f := fa) (cdv := cdv) (A := A) (outer := outer) (s := s) (H := H) (E := E)
    exact (dss_cons (ds_if (DW.dt (dw_or (dt_not (dt_t (de_dp (de_isA .tTuple (dp_v 0) T.z_isinstance T.z_tuple bb_isinstance bb_tuple)))) (dw_or1 (dt_not (dt_chain op_le op_le ok_le ok_le de_int (de_len (dp_v 0) T.z_len) (de_gi T.k_MOST_POINTS)))))) (dss_one (ds_raiseK rfl T.x_TableError T.z_super hr tk de_str)) dss_nil)
  (dss_cons (ds_for hp rfl (di_l (de_v 0)) (dg_n sc_check_table.nd) (dss_cons (ds_if (DW.dt (dw_or (dt_not (dt_t (de_dp (de_isA .tTuple (dp_v 1) T.z_isinstance T.z_tuple bb_isinstance bb_tuple)))) (dw_or1 (dt_cmp (opNe hu) ok_ne.vv (de_len (dp_v 1) T.z_len) (de_len (dp_v 0) T.z_len))))) (dss_one (ds_raiseK rfl T.x_TableError T.z_super hr tk de_str)) dss_nil)
  (dss_one (ds_if (dt_t (de_dp (de_b1 (call_any' rfl) ok_anyA (de_dp (de_comp (own := [(("each" : Str), 3)]) rfl sc_check_table.nd (di_l (de_v 1)) (blkOk_by (by kernel_rfl)) (fun s H C cl fp => (dg_n sc_check_table.nd)) (fun s H C cl fp => dts_nil) (fun s H C cl fp => (de_or (de_not (de_call ((t_is_integer T).mono (by omega)) hr takes0 (dr_va (de_v 3) dr_nil))) (de_one (de_not (de_chain op_le op_le ok_le ok_le de_int (de_v 3) (de_gi T.k_MOST_FAR)))))))) T.z_any bb_any))) (dss_one (ds_raiseK rfl T.x_TableError T.z_super hr tk de_str)) dss_nil))))
  (dss_one (ds_for hp rfl (di_enum (de_v 0) T.z_enumerate) (dg_t rfl (dgs_cons (dg_n sc_check_table.nd) (dgs_cons (dg_n sc_check_table.nd) dgs_nil))) (dss_one (ds_if (DW.dt (dw_or (dt_cmp (opNe hu) ok_ne.vv (de_ixP 1 (de_v 2)) de_int) (dw_or1 (dt_t (de_dp (de_b1 (call_any' rfl) ok_anyA (de_dp (de_comp (own := [(("to" : Str), 4)]) rfl sc_check_table.nd (di_r1 (de_v 2) T.z_range) (blkOk_by (by kernel_rfl)) (fun s H C cl fp => (dg_n sc_check_table.nd)) (fun s H C cl fp => dts_nil) (fun s H C cl fp => (de_cmp (opNe hu) ok_ne.vv (de_ixP 1 (de_v 4)) (de_ix (de_ixP 0 (de_v 4)) (de_v 2)))))) T.z_any bb_any)))))) (dss_one (ds_raiseK rfl T.x_TableError T.z_super hr tk de_str)) dss_nil))))))
theorem t_choices (T : Txt P w K mg base) : Fk P w K mg base 3 "choices" ["many", "size"] [] F_choices := by
    obtain ⟨fa, fd, Fn, bn, gm⟩ := T.f_choices.ex
    refine fk_def (c := c_choices) (k := 2) Fn sc_choices bn gm (by decide) fun cdv A outer s H E hr B hB => ?_
    obtain rfl : B = [] := by simpa using hB
    have hu : A.units + 3 + 66 < cLine := by have := hr.un; have e : (A.deeper (envOfC "choices" (defScope s_choices) s.heap.objs.size fa cdv)).units = A.units + 3 := rfl; omega
    have tk := tk_of (P := P) (w := w) (K := K) (mg := mg) (base := base) (N := ["many", "size", "found", "turn", "row", "each"]) (qual := "choices") (scope := defScope s_choices) (f := fa) (cdv := cdv) (A := A) (outer := outer) (s := s) (H := H) (E := E)
    have hp := hp_of (P := P) (w := w) (K := K) (mg := mg) (base := base) (N := ["many", "size", "found", "turn", "row", "each"]) (qual := "choices") (scope := defScope s_choices) (f := fa) (cdv := cdv) (A := A) (outer := outer) (s := s) (H := H) (E := E)
    exact (dss_cons (ds_set sc_choices.nd (de_lst (dn_cons (de_tupn dn_nil) dn_nil)))
  (dss_cons (ds_for hp rfl (di_r1 (de_v 1) T.z_range) (dg_n sc_choices.nd) (dss_one (ds_setC2 (own := [(("row" : Str), 4), (("each" : Str), 5)]) (vs1 := [5]) rfl sc_choices.nd (di_l (de_v 2)) (blkOk_by (by kernel_rfl)) (fun s H C cl fp => (dg_n sc_choices.nd)) (fun s H C cl fp => dts_nil) (fun s H C cl fp => (di_r2 (de_if (dt_t (dp_v 4)) (de_add (de_ixP 4 (de_neg de_int)) de_int) de_int) (de_v 0) T.z_range)) (fun s H C cl fp => (dg_n sc_choices.nd)) (fun s H C cl fp => dts_nil) (fun s H C cl fp => (de_add (de_v 4) (de_tupn (dn_cons (de_v 5) dn_nil)))))))
  (dss_one (ds_ret (de_v 2)))))
theorem t_distance_paper (T : Txt P w K mg base) : Fk P w K mg base 5 "distance_paper" ["table"] [] F_distance_paper := by
    obtain ⟨fa, fd, Fn, bn, gm⟩ := T.f_distance_paper.ex
    refine fk_def (c := c_distance_paper) (k := 4) Fn sc_distance_paper bn gm (by decide) fun cdv A outer s H E hr B hB => ?_
    obtain rfl : B = [] := by simpa using hB
    have hu : A.units + 3 + 66 < cLine := by have := hr.un; have e : (A.deeper (envOfC "distance_paper" (defScope s_distance_paper) s.heap.objs.size fa cdv)).units = A.units + 3 := rfl; omega
    have tk := tk_of (P := P) (w := w) (K := K) (mg := mg) (base := base) (N := ["table", "one", "other", "third"]) (qual := "distance_paper") (scope := defScope s_distance_paper) (f := fa) (cdv := cdv) (A := A) (outer := outer) (s := s) (H := H) (E := E)
    have hp := hp_of (P := P) (w := w) (K := K) (mg := mg) (base := base) (N := ["table", "one", "other", "third"]) (qual := "distance_paper") (scope := defScope s_distance_paper) (f := fa) (cdv := cdv) (A := A) (outer := outer) (s := s) (H := H) (E := E)
    exact (dss_cons (ds_drop (de_call ((t_check_table T).mono (by omega)) hr tk (dr_va (de_v 0) dr_nil)))
  (dss_cons (ds_for hp rfl (di_l (de_call ((t_choices T).mono (by omega)) hr tk (dr_va (de_len (dp_v 0) T.z_len) (dr_va de_int dr_nil)))) (dg_t rfl (dgs_cons (dg_n sc_distance_paper.nd) (dgs_cons (dg_n sc_distance_paper.nd) dgs_nil))) (dss_one (ds_if (dt_cmp (opEq hu) ok_eq.vv (de_ix (de_ixP 0 (de_v 1)) (de_v 2)) de_int) (dss_one (ds_ret (de_tupn (dn_cons de_str (dn_cons (de_v 1) (dn_cons (de_v 2) dn_nil)))))) dss_nil)))
  (dss_cons (ds_for hp rfl (di_l (de_call ((t_choices T).mono (by omega)) hr tk (dr_va (de_len (dp_v 0) T.z_len) (dr_va de_int dr_nil)))) (dg_t rfl (dgs_cons (dg_n sc_distance_paper.nd) (dgs_cons (dg_n sc_distance_paper.nd) dgs_nil))) (dss_one (ds_for hp rfl (di_r1 (de_len (dp_v 0) T.z_len) T.z_range) (dg_n sc_distance_paper.nd) (dss_one (ds_if (dt_cmp op_lt ok_lt (de_add (de_ix (de_ixP 0 (de_v 1)) (de_v 3)) (de_ix (de_ixP 0 (de_v 3)) (de_v 2))) (de_ix (de_ixP 0 (de_v 1)) (de_v 2))) (dss_one (ds_ret (de_tupn (dn_cons de_str (dn_cons (de_v 1) (dn_cons (de_v 3) (dn_cons (de_v 2) dn_nil))))))) dss_nil)))))
  (dss_one (ds_ret (de_tupn (dn_cons de_str dn_nil)))))))
theorem t_check_distances (T : Txt P w K mg base) : Fk P w K mg base 6 "check_distances" ["table"] [] F_check_distances := by
    obtain ⟨fa, fd, Fn, bn, gm⟩ := T.f_check_distances.ex
    refine fk_def (c := c_check_distances) (k := 5) Fn sc_check_distances bn gm (by decide) fun cdv A outer s H E hr B hB => ?_
    obtain rfl : B = [] := by simpa using hB
    have hu : A.units + 3 + 66 < cLine := by have := hr.un; have e : (A.deeper (envOfC "check_distances" (defScope s_check_distances) s.heap.objs.size fa cdv)).units = A.units + 3 := rfl; omega
    have tk := tk_of (P := P) (w := w) (K := K) (mg := mg) (base := base) (N := ["table"]) (qual := "check_distances") (scope := defScope s_check_distances) (f := fa) (cdv := cdv) (A := A) (outer := outer) (s := s) (H := H) (E := E)
    have hp := hp_of (P := P) (w := w) (K := K) (mg := mg) (base := base) (N := ["table"]) (qual := "check_distances") (scope := defScope s_check_distances) (f := fa) (cdv := cdv) (A := A) (outer := outer) (s := s) (H := H) (E := E)
    exact (dss_one (ds_if (dt_cmp (opNe hu) ok_ne.vv (de_call ((t_distance_paper T).mono (by omega)) hr tk (dr_va (de_v 0) dr_nil)) (de_tupn (dn_cons de_str dn_nil))) (dss_one (ds_raiseK rfl T.x_TableError T.z_super hr tk de_str)) dss_nil))
theorem t_check_row (T : Txt P w K mg base) : Fk P w K mg base 4 "check_row" ["table", "row"] [] F_check_row := by
    obtain ⟨fa, fd, Fn, bn, gm⟩ := T.f_check_row.ex
    refine fk_def (c := c_check_row) (k := 3) Fn sc_check_row bn gm (by decide) fun cdv A outer s H E hr B hB => ?_
    obtain rfl : B = [] := by simpa using hB
    have hu : A.units + 3 + 66 < cLine := by have := hr.un; have e : (A.deeper (envOfC "check_row" (defScope s_check_row) s.heap.objs.size fa cdv)).units = A.units + 3 := rfl; omega
    have tk := tk_of (P := P) (w := w) (K := K) (mg := mg) (base := base) (N := ["table", "row", "each"]) (qual := "check_row") (scope := defScope s_check_row) (f := fa) (cdv := cdv) (A := A) (outer := outer) (s := s) (H := H) (E := E)
    have hp := hp_of (P := P) (w := w) (K := K) (mg := mg) (base := base) (N := ["table", "row", "each"]) (qual := "check_row") (scope := defScope s_check_row) (f := fa) (cdv := cdv) (A := A) (outer := outer) (s := s) (H := H) (E := E)
    exact (dss_cons (ds_if (DW.dt (dw_or (dt_not (dt_t (de_dp (de_isA .tTuple (dp_v 1) T.z_isinstance T.z_tuple bb_isinstance bb_tuple)))) (dw_or1 (dt_cmp (opNe hu) ok_ne.vv (de_len (dp_v 1) T.z_len) (de_len (dp_v 0) T.z_len))))) (dss_one (ds_raiseK rfl T.x_TableError T.z_super hr tk de_str)) dss_nil)
  (dss_one (ds_if (dt_t (de_dp (de_b1 (call_any' rfl) ok_anyA (de_dp (de_comp (own := [(("each" : Str), 2)]) rfl sc_check_row.nd (di_l (de_v 1)) (blkOk_by (by kernel_rfl)) (fun s H C cl fp => (dg_n sc_check_row.nd)) (fun s H C cl fp => dts_nil) (fun s H C cl fp => (de_or (de_not (de_call ((t_is_integer T).mono (by omega)) hr takes0 (dr_va (de_v 2) dr_nil))) (de_one (de_not (de_chain op_lt op_le ok_lt ok_le de_int (de_v 2) de_int))))))) T.z_any bb_any))) (dss_one (ds_raiseK rfl T.x_TableError T.z_super hr tk de_str)) dss_nil)))
theorem t_more_paper (T : Txt P w K mg base) : Fk P w K mg base 7 "more_paper" ["table", "row"] [] F_more_paper := by
    obtain ⟨fa, fd, Fn, bn, gm⟩ := T.f_more_paper.ex
    refine fk_def (c := c_more_paper) (k := 6) Fn sc_more_paper bn gm (by decide) fun cdv A outer s H E hr B hB => ?_
    obtain rfl : B = [] := by simpa using hB
    have hu : A.units + 3 + 66 < cLine := by have := hr.un; have e : (A.deeper (envOfC "more_paper" (defScope s_more_paper) s.heap.objs.size fa cdv)).units = A.units + 3 := rfl; omega
    have tk := tk_of (P := P) (w := w) (K := K) (mg := mg) (base := base) (N := ["table", "row", "one", "other"]) (qual := "more_paper") (scope := defScope s_more_paper) (f := fa) (cdv := cdv) (A := A) (outer := outer) (s := s) (H := H) (E := E)
    have hp := hp_of (P := P) (w := w) (K := K) (mg := mg) (base := base) (N := ["table", "row", "one", "other"]) (qual := "more_paper") (scope := defScope s_more_paper) (f := fa) (cdv := cdv) (A := A) (outer := outer) (s := s) (H := H) (E := E)
    exact (dss_cons (ds_drop (de_call ((t_check_distances T).mono (by omega)) hr tk (dr_va (de_v 0) dr_nil)))
  (dss_cons (ds_drop (de_call ((t_check_row T).mono (by omega)) hr tk (dr_va (de_v 0) (dr_va (de_v 1) dr_nil))))
  (dss_cons (ds_for hp rfl (di_l (de_call ((t_choices T).mono (by omega)) hr tk (dr_va (de_len (dp_v 0) T.z_len) (dr_va de_int dr_nil)))) (dg_t rfl (dgs_cons (dg_n sc_more_paper.nd) (dgs_cons (dg_n sc_more_paper.nd) dgs_nil))) (dss_cons (ds_if (dt_cmp op_lt ok_lt (de_add (de_ixP 1 (de_v 2)) (de_ixP 1 (de_v 3))) (de_ix (de_ixP 0 (de_v 2)) (de_v 3))) (dss_one (ds_ret (de_tupn (dn_cons de_str (dn_cons (de_v 2) (dn_cons (de_v 3) dn_nil)))))) dss_nil)
  (dss_one (ds_if (dt_cmp op_gt ok_gt (de_b1 call_abs ok_abs (de_dp (de_sub (de_ixP 1 (de_v 2)) (de_ixP 1 (de_v 3)))) T.z_abs bb_abs) (de_ix (de_ixP 0 (de_v 2)) (de_v 3))) (dss_one (ds_ret (de_tupn (dn_cons de_str (dn_cons (de_v 2) (dn_cons (de_v 3) dn_nil)))))) dss_nil))))
  (dss_one (ds_ret (de_tupn (dn_cons de_str dn_nil)))))))
theorem t_with_point (T : Txt P w K mg base) : Fk P w K mg base 8 "with_point" ["table", "row"] [] F_with_point := by
    obtain ⟨fa, fd, Fn, bn, gm⟩ := T.f_with_point.ex
    refine fk_def (c := c_with_point) (k := 7) Fn sc_with_point bn gm (by decide) fun cdv A outer s H E hr B hB => ?_
    obtain rfl : B = [] := by simpa using hB
    have hu : A.units + 3 + 66 < cLine := by have := hr.un; have e : (A.deeper (envOfC "with_point" (defScope s_with_point) s.heap.objs.size fa cdv)).units = A.units + 3 := rfl; omega
    have tk := tk_of (P := P) (w := w) (K := K) (mg := mg) (base := base) (N := ["table", "row", "at", "line"]) (qual := "with_point") (scope := defScope s_with_point) (f := fa) (cdv := cdv) (A := A) (outer := outer) (s := s) (H := H) (E := E)
    have hp := hp_of (P := P) (w := w) (K := K) (mg := mg) (base := base) (N := ["table", "row", "at", "line"]) (qual := "with_point") (scope := defScope s_with_point) (f := fa) (cdv := cdv) (A := A) (outer := outer) (s := s) (H := H) (E := E)
    exact (dss_cons (ds_if (dt_cmp (opNe hu) ok_ne.vv (de_call ((t_more_paper T).mono (by omega)) hr tk (dr_va (de_v 0) (dr_va (de_v 1) dr_nil))) (de_tupn (dn_cons de_str dn_nil))) (dss_one (ds_raiseK rfl T.x_TableError T.z_super hr tk de_str)) dss_nil)
  (dss_one (ds_ret (de_add (de_t1 call_tupleF ok_tuple (de_dp (de_comp (own := [(("at" : Str), 2), (("line" : Str), 3)]) rfl sc_with_point.nd (di_enum (de_v 0) T.z_enumerate) (blkOk_by (by kernel_rfl)) (fun s H C cl fp => (dg_t rfl (dgs_cons (dg_n sc_with_point.nd) (dgs_cons (dg_n sc_with_point.nd) dgs_nil)))) (fun s H C cl fp => dts_nil) (fun s H C cl fp => (de_add (de_v 3) (de_tupn (dn_cons (de_ixP 1 (de_v 2)) dn_nil)))))) T.z_tuple bb_tuple) (de_tupn (dn_cons (de_add (de_v 1) (de_tupn (dn_cons de_int dn_nil))) dn_nil))))))
theorem t_check_shared (T : Txt P w K mg base) : Fk P w K mg base 7 "check_shared" ["table", "other", "many"] [] F_check_shared := by
    obtain ⟨fa, fd, Fn, bn, gm⟩ := T.f_check_shared.ex
    refine fk_def (c := c_check_shared) (k := 6) Fn sc_check_shared bn gm (by decide) fun cdv A outer s H E hr B hB => ?_
    obtain rfl : B = [] := by simpa using hB
    have hu : A.units + 3 + 66 < cLine := by have := hr.un; have e : (A.deeper (envOfC "check_shared" (defScope s_check_shared) s.heap.objs.size fa cdv)).units = A.units + 3 := rfl; omega
    have tk := tk_of (P := P) (w := w) (K := K) (mg := mg) (base := base) (N := ["table", "other", "many", "one", "two"]) (qual := "check_shared") (scope := defScope s_check_shared) (f := fa) (cdv := cdv) (A := A) (outer := outer) (s := s) (H := H) (E := E)
    have hp := hp_of (P := P) (w := w) (K := K) (mg := mg) (base := base) (N := ["table", "other", "many", "one", "two"]) (qual := "check_shared") (scope := defScope s_check_shared) (f := fa) (cdv := cdv) (A := A) (outer := outer) (s := s) (H := H) (E := E)
    exact (dss_cons (ds_drop (de_call ((t_check_distances T).mono (by omega)) hr tk (dr_va (de_v 0) dr_nil)))
  (dss_cons (ds_drop (de_call ((t_check_distances T).mono (by omega)) hr tk (dr_va (de_v 1) dr_nil)))
  (dss_cons (ds_if (DW.dt (dw_or (dt_not (dt_t (de_dp (de_call ((t_is_integer T).mono (by omega)) hr tk (dr_va (de_v 2) dr_nil))))) (dw_or1 (dt_not (dt_chain op_le op_le ok_le ok_le de_int (de_v 2) (de_b2 (call_min2 rfl) ok_min2 (de_len (dp_v 0) T.z_len) (de_len (dp_v 1) T.z_len) T.z_min bb_min)))))) (dss_one (ds_raiseK rfl T.x_TableError T.z_super hr tk de_str)) dss_nil)
  (dss_cons (ds_if (dt_t (de_dp (de_b1 (call_any' rfl) ok_anyA (de_dp (de_comp2 (own := [(("one" : Str), 3), (("two" : Str), 4)]) (vs1 := [4]) rfl sc_check_shared.nd (di_r1 (de_v 2) T.z_range) (blkOk_by (by kernel_rfl)) (fun s H C cl fp => (dg_n sc_check_shared.nd)) (fun s H C cl fp => dts_nil) (fun s H C cl fp => (di_r1 (de_v 2) T.z_range)) (fun s H C cl fp => (dg_n sc_check_shared.nd)) (fun s H C cl fp => dts_nil) (fun s H C cl fp => (de_cmp (opNe hu) ok_ne.vv (de_ix (de_ixP 0 (de_v 3)) (de_v 4)) (de_ix (de_ixP 1 (de_v 3)) (de_v 4)))))) T.z_any bb_any))) (dss_one (ds_raiseK rfl T.x_TableError T.z_super hr tk de_str)) dss_nil)
  (dss_one (ds_if (dt_cmp op_gt ok_gt (de_sub (de_add (de_len (dp_v 0) T.z_len) (de_len (dp_v 1) T.z_len)) (de_v 2)) de_int) (dss_one (ds_raiseK rfl T.x_TableError T.z_super hr tk de_str)) dss_nil))))))
theorem t_step (T : Txt P w K mg base) : Fk P w K mg base 3 "step" ["table", "other", "many", "one", "to"] [] F_step := by
    obtain ⟨fa, fd, Fn, bn, gm⟩ := T.f_step.ex
    refine fk_def (c := c_step) (k := 2) Fn sc_step bn gm (by decide) fun cdv A outer s H E hr B hB => ?_
    obtain rfl : B = [] := by simpa using hB
    have hu : A.units + 3 + 66 < cLine := by have := hr.un; have e : (A.deeper (envOfC "step" (defScope s_step) s.heap.objs.size fa cdv)).units = A.units + 3 := rfl; omega
    have tk := tk_of (P := P) (w := w) (K := K) (mg := mg) (base := base) (N := ["table", "other", "many", "one", "to", "at"]) (qual := "step") (scope := defScope s_step) (f := fa) (cdv := cdv) (A := A) (outer := outer) (s := s) (H := H) (E := E)
    have hp := hp_of (P := P) (w := w) (K := K) (mg := mg) (base := base) (N := ["table", "other", "many", "one", "to", "at"]) (qual := "step") (scope := defScope s_step) (f := fa) (cdv := cdv) (A := A) (outer := outer) (s := s) (H := H) (E := E)
    exact (dss_one (ds_ret (de_b1 (call_minL rfl hu) ok_minA (de_dp (de_comp (own := [(("at" : Str), 5)]) rfl sc_step.nd (di_r1 (de_v 2) T.z_range) (blkOk_by (by kernel_rfl)) (fun s H C cl fp => (dg_n sc_step.nd)) (fun s H C cl fp => dts_nil) (fun s H C cl fp => (de_add (de_ix (de_ixP 0 (de_v 3)) (de_v 5)) (de_ix (de_ixP 1 (de_v 5)) (de_v 4)))))) T.z_min bb_min)))
theorem t_glued (T : Txt P w K mg base) : Fk P w K mg base 8 "glued" ["table", "other", "many"] [] F_glued := by
    obtain ⟨fa, fd, Fn, bn, gm⟩ := T.f_glued.ex
    refine fk_def (c := c_glued) (k := 7) Fn sc_glued bn gm (by decide) fun cdv A outer s H E hr B hB => ?_
    obtain rfl : B = [] := by simpa using hB
    have hu : A.units + 3 + 66 < cLine := by have := hr.un; have e : (A.deeper (envOfC "glued" (defScope s_glued) s.heap.objs.size fa cdv)).units = A.units + 3 := rfl; omega
    have tk := tk_of (P := P) (w := w) (K := K) (mg := mg) (base := base) (N := ["table", "other", "many", "size", "rows", "one", "to", "row"]) (qual := "glued") (scope := defScope s_glued) (f := fa) (cdv := cdv) (A := A) (outer := outer) (s := s) (H := H) (E := E)
    have hp := hp_of (P := P) (w := w) (K := K) (mg := mg) (base := base) (N := ["table", "other", "many", "size", "rows", "one", "to", "row"]) (qual := "glued") (scope := defScope s_glued) (f := fa) (cdv := cdv) (A := A) (outer := outer) (s := s) (H := H) (E := E)
    exact (dss_cons (ds_drop (de_call ((t_check_shared T).mono (by omega)) hr tk (dr_va (de_v 0) (dr_va (de_v 1) (dr_va (de_v 2) dr_nil)))))
  (dss_cons (ds_set sc_glued.nd (de_len (dp_v 0) T.z_len))
  (dss_cons (ds_setCO (own := [(("row" : Str), 7)]) rfl sc_glued.nd (di_l (de_v 0)) (blkOk_by (by kernel_rfl)) (fun s H C cl fp => (dg_n sc_glued.nd)) (fun s H C cl fp => dts_nil) (fun s H C cl fp => (de_t1 call_list_of ok_list (dp_v 7) T.z_list bb_list)))
  (dss_cons (ds_for hp rfl (di_r1 (de_v 3) T.z_range) (dg_n sc_glued.nd) (dss_one (ds_augIx 4 (dn_v 5) (de_comp (own := [(("to" : Str), 6)]) rfl sc_glued.nd (di_r2 (de_v 2) (de_len (dp_v 1) T.z_len) T.z_range) (blkOk_by (by kernel_rfl)) (fun s H C cl fp => (dg_n sc_glued.nd)) (fun s H C cl fp => dts_nil) (fun s H C cl fp => (de_call ((t_step T).mono (by omega)) hr takes0 (dr_va (de_v 0) (dr_va (de_v 1) (dr_va (de_v 2) (dr_va (de_v 5) (dr_va (de_v 6) dr_nil)))))))))))
  (dss_cons (ds_for hp rfl (di_r2 (de_v 2) (de_len (dp_v 1) T.z_len) T.z_range) (dg_n sc_glued.nd) (dss_one (ds_drop (de_appO 4 (de_add (de_comp (own := [(("one" : Str), 5)]) rfl sc_glued.nd (di_r1 (de_v 3) T.z_range) (blkOk_by (by kernel_rfl)) (fun s H C cl fp => (dg_n sc_glued.nd)) (fun s H C cl fp => dts_nil) (fun s H C cl fp => (de_call ((t_step T).mono (by omega)) hr takes0 (dr_va (de_v 0) (dr_va (de_v 1) (dr_va (de_v 2) (dr_va (de_v 5) (dr_va (de_v 6) dr_nil)))))))) (de_t1 call_list_of ok_list (de_dp (de_cut (de_ixP 1 (de_v 6)) (do_some (de_v 2)) do_no)) T.z_list bb_list))))))
  (dss_one (ds_ret (de_t1 call_tupleF ok_tuple (de_dp (de_comp (own := [(("row" : Str), 7)]) rfl sc_glued.nd (di_l (de_v 4)) (blkOk_by (by kernel_rfl)) (fun s H C cl fp => (dg_n sc_glued.nd)) (fun s H C cl fp => dts_nil) (fun s H C cl fp => (de_t1 call_tupleF ok_tuple (dp_v 7) T.z_tuple bb_tuple)))) T.z_tuple bb_tuple))))))))
theorem t_gap (T : Txt P w K mg base) : Fk P w K mg base 3 "gap" ["table", "other", "many", "one", "to"] [] F_gap := by
    obtain ⟨fa, fd, Fn, bn, gm⟩ := T.f_gap.ex
    refine fk_def (c := c_gap) (k := 2) Fn sc_gap bn gm (by decide) fun cdv A outer s H E hr B hB => ?_
    obtain rfl : B = [] := by simpa using hB
    have hu : A.units + 3 + 66 < cLine := by have := hr.un; have e : (A.deeper (envOfC "gap" (defScope s_gap) s.heap.objs.size fa cdv)).units = A.units + 3 := rfl; omega
    have tk := tk_of (P := P) (w := w) (K := K) (mg := mg) (base := base) (N := ["table", "other", "many", "one", "to", "at"]) (qual := "gap") (scope := defScope s_gap) (f := fa) (cdv := cdv) (A := A) (outer := outer) (s := s) (H := H) (E := E)
    have hp := hp_of (P := P) (w := w) (K := K) (mg := mg) (base := base) (N := ["table", "other", "many", "one", "to", "at"]) (qual := "gap") (scope := defScope s_gap) (f := fa) (cdv := cdv) (A := A) (outer := outer) (s := s) (H := H) (E := E)
    exact (dss_one (ds_ret (de_b1 (call_maxL rfl hu) ok_maxA (de_dp (de_comp (own := [(("at" : Str), 5)]) rfl sc_gap.nd (di_r1 (de_v 2) T.z_range) (blkOk_by (by kernel_rfl)) (fun s H C cl fp => (dg_n sc_gap.nd)) (fun s H C cl fp => dts_nil) (fun s H C cl fp => (de_b1 call_abs ok_abs (de_dp (de_sub (de_ix (de_ixP 0 (de_v 3)) (de_v 5)) (de_ix (de_ixP 1 (de_v 5)) (de_v 4)))) T.z_abs bb_abs)))) T.z_max bb_max)))
theorem t_least_glued (T : Txt P w K mg base) : Fk P w K mg base 8 "least_glued" ["table", "other", "many"] [] F_least_glued := by
    obtain ⟨fa, fd, Fn, bn, gm⟩ := T.f_least_glued.ex
    refine fk_def (c := c_least_glued) (k := 7) Fn sc_least_glued bn gm (by decide) fun cdv A outer s H E hr B hB => ?_
    obtain rfl : B = [] := by simpa using hB
    have hu : A.units + 3 + 66 < cLine := by have := hr.un; have e : (A.deeper (envOfC "least_glued" (defScope s_least_glued) s.heap.objs.size fa cdv)).units = A.units + 3 := rfl; omega
    have tk := tk_of (P := P) (w := w) (K := K) (mg := mg) (base := base) (N := ["table", "other", "many", "size", "rows", "one", "to", "row"]) (qual := "least_glued") (scope := defScope s_least_glued) (f := fa) (cdv := cdv) (A := A) (outer := outer) (s := s) (H := H) (E := E)
    have hp := hp_of (P := P) (w := w) (K := K) (mg := mg) (base := base) (N := ["table", "other", "many", "size", "rows", "one", "to", "row"]) (qual := "least_glued") (scope := defScope s_least_glued) (f := fa) (cdv := cdv) (A := A) (outer := outer) (s := s) (H := H) (E := E)
    exact (dss_cons (ds_drop (de_call ((t_check_shared T).mono (by omega)) hr tk (dr_va (de_v 0) (dr_va (de_v 1) (dr_va (de_v 2) dr_nil)))))
  (dss_cons (ds_set sc_least_glued.nd (de_len (dp_v 0) T.z_len))
  (dss_cons (ds_setCO (own := [(("row" : Str), 7)]) rfl sc_least_glued.nd (di_l (de_v 0)) (blkOk_by (by kernel_rfl)) (fun s H C cl fp => (dg_n sc_least_glued.nd)) (fun s H C cl fp => dts_nil) (fun s H C cl fp => (de_t1 call_list_of ok_list (dp_v 7) T.z_list bb_list)))
  (dss_cons (ds_for hp rfl (di_r1 (de_v 3) T.z_range) (dg_n sc_least_glued.nd) (dss_one (ds_augIx 4 (dn_v 5) (de_comp (own := [(("to" : Str), 6)]) rfl sc_least_glued.nd (di_r2 (de_v 2) (de_len (dp_v 1) T.z_len) T.z_range) (blkOk_by (by kernel_rfl)) (fun s H C cl fp => (dg_n sc_least_glued.nd)) (fun s H C cl fp => dts_nil) (fun s H C cl fp => (de_call ((t_gap T).mono (by omega)) hr takes0 (dr_va (de_v 0) (dr_va (de_v 1) (dr_va (de_v 2) (dr_va (de_v 5) (dr_va (de_v 6) dr_nil)))))))))))
  (dss_cons (ds_for hp rfl (di_r2 (de_v 2) (de_len (dp_v 1) T.z_len) T.z_range) (dg_n sc_least_glued.nd) (dss_one (ds_drop (de_appO 4 (de_add (de_comp (own := [(("one" : Str), 5)]) rfl sc_least_glued.nd (di_r1 (de_v 3) T.z_range) (blkOk_by (by kernel_rfl)) (fun s H C cl fp => (dg_n sc_least_glued.nd)) (fun s H C cl fp => dts_nil) (fun s H C cl fp => (de_call ((t_gap T).mono (by omega)) hr takes0 (dr_va (de_v 0) (dr_va (de_v 1) (dr_va (de_v 2) (dr_va (de_v 5) (dr_va (de_v 6) dr_nil)))))))) (de_t1 call_list_of ok_list (de_dp (de_cut (de_ixP 1 (de_v 6)) (do_some (de_v 2)) do_no)) T.z_list bb_list))))))
  (dss_one (ds_ret (de_t1 call_tupleF ok_tuple (de_dp (de_comp (own := [(("row" : Str), 7)]) rfl sc_least_glued.nd (di_l (de_v 4)) (blkOk_by (by kernel_rfl)) (fun s H C cl fp => (dg_n sc_least_glued.nd)) (fun s H C cl fp => dts_nil) (fun s H C cl fp => (de_t1 call_tupleF ok_tuple (dp_v 7) T.z_tuple bb_tuple)))) T.z_tuple bb_tuple))))))))
theorem t__law_begin (T : Txt P w K mg base) : Fk P w K mg base 3 "_law_begin" ["script"] [] F__law_begin := by
    obtain ⟨fa, fd, Fn, bn, gm⟩ := T.f__law_begin.ex
    refine fk_def (c := c__law_begin) (k := 2) Fn sc__law_begin bn gm (by decide) fun cdv A outer s H E hr B hB => ?_
    obtain rfl : B = [] := by simpa using hB
    have hu : A.units + 3 + 66 < cLine := by have := hr.un; have e : (A.deeper (envOfC "_law_begin" (defScope s__law_begin) s.heap.objs.size fa cdv)).units = A.units + 3 := rfl; omega
    have tk := tk_of (P := P) (w := w) (K := K) (mg := mg) (base := base) (N := ["script", "seed", "cell"]) (qual := "_law_begin") (scope := defScope s__law_begin) (f := fa) (cdv := cdv) (A := A) (outer := outer) (s := s) (H := H) (E := E)
    have hp := hp_of (P := P) (w := w) (K := K) (mg := mg) (base := base) (N := ["script", "seed", "cell"]) (qual := "_law_begin") (scope := defScope s__law_begin) (f := fa) (cdv := cdv) (A := A) (outer := outer) (s := s) (H := H) (E := E)
    exact (dss_cons (ds_set sc__law_begin.nd de_int)
  (dss_cons (ds_for hp rfl (di_l (de_v 0)) (dg_n sc__law_begin.nd) (dss_one (ds_set sc__law_begin.nd (de_mod (de_add (de_add (de_mul (de_v 1) de_int) (de_mod (de_t1 call_int1 ok_int1 (dp_v 2) T.z_int bb_int) de_int)) de_int) de_int))))
  (dss_one (ds_ret (de_lst (dn_cons (de_t1 call_list_of ok_list (dp_v 0) T.z_list bb_list) (dn_cons de_int (dn_cons de_int (dn_cons (de_v 1) dn_nil)))))))))
theorem t__law_take (T : Txt P w K mg base) : Fk P w K mg base 3 "_law_take" ["d", "many"] [0] F__law_take := by
    obtain ⟨fa, fd, Fn, bn, gm⟩ := T.f__law_take.ex
    refine fk_def (c := c__law_take) (k := 2) Fn sc__law_take bn gm (by decide) fun cdv A outer s H E hr B hB => ?_
    obtain ⟨a0, rfl⟩ := one_B hB
    have hu : A.units + 3 + 66 < cLine := by have := hr.un; have e : (A.deeper (envOfC "_law_take" (defScope s__law_take) s.heap.objs.size fa cdv)).units = A.units + 3 := rfl; omega
    have tk := tk_of (P := P) (w := w) (K := K) (mg := mg) (base := base) (N := ["d", "many", "small", "digit"]) (qual := "_law_take") (scope := defScope s__law_take) (f := fa) (cdv := cdv) (A := A) (outer := outer) (s := s) (H := H) (E := E)
    have hp := hp_of (P := P) (w := w) (K := K) (mg := mg) (base := base) (N := ["d", "many", "small", "digit"]) (qual := "_law_take") (scope := defScope s__law_take) (f := fa) (cdv := cdv) (A := A) (outer := outer) (s := s) (H := H) (E := E)
    exact (dss_cons (ds_if (DW.dt (dw_and (dt_cmp (opEq hu) ok_eq.vv (de_ixP 0 de_int) de_int) (dw_and1 (dt_cmp op_lt ok_lt (de_ixP 0 de_int) (de_len (de_dp (de_ixP 0 de_int)) T.z_len))))) (dss_cons (ds_to (de_b1 call_abs ok_abs (de_dp (de_t1 call_int1 ok_int1 (de_dp (de_ix (de_ixP 0 de_int) (de_ixP 0 de_int))) T.z_int bb_int)) T.z_abs bb_abs) (dg_ix 0 dn_i))
  (dss_cons (ds_to (de_add (de_ixP 0 de_int) de_int) (dg_ix 0 dn_i))
  (dss_one (ds_if (dt_cmp op_lt ok_lt (de_ixP 0 de_int) (de_pow de_int de_int)) (dss_cons (ds_set sc__law_take.nd (de_t1 call_int1 ok_int1 (de_dp (de_ixP 0 de_int)) T.z_int bb_int))
  (dss_cons (ds_to de_int (dg_ix 0 dn_i))
  (dss_one (ds_ret (de_mod (de_v 2) (de_v 1)))))) dss_nil)))) dss_nil)
  (dss_cons (ds_if (dt_cmp op_gt ok_gt (de_ixP 0 de_int) de_int) (dss_cons (ds_set sc__law_take.nd (de_mod (de_t1 call_int1 ok_int1 (de_dp (de_ixP 0 de_int)) T.z_int bb_int) (de_v 1)))
  (dss_cons (ds_to (de_div (de_t1 call_int1 ok_int1 (de_dp (de_ixP 0 de_int)) T.z_int bb_int) (de_v 1)) (dg_ix 0 dn_i))
  (dss_one (ds_ret (de_v 3))))) dss_nil)
  (dss_cons (ds_to (de_mod (de_t1 call_int1 ok_int1 (de_dp (de_add (de_mul (de_ixP 0 de_int) de_int) de_int)) T.z_int bb_int) de_int) (dg_ix 0 dn_i))
  (dss_one (ds_ret (de_mod (de_t1 call_int1 ok_int1 (de_dp (de_div (de_ixP 0 de_int) de_int)) T.z_int bb_int) (de_v 1)))))))
theorem t__law_shuffled (T : Txt P w K mg base) : Fk P w K mg base 4 "_law_shuffled" ["d", "n"] [0] F__law_shuffled := by
    obtain ⟨fa, fd, Fn, bn, gm⟩ := T.f__law_shuffled.ex
    refine fk_def (c := c__law_shuffled) (k := 3) Fn sc__law_shuffled bn gm (by decide) fun cdv A outer s H E hr B hB => ?_
    obtain ⟨a0, rfl⟩ := one_B hB
    have hu : A.units + 3 + 66 < cLine := by have := hr.un; have e : (A.deeper (envOfC "_law_shuffled" (defScope s__law_shuffled) s.heap.objs.size fa cdv)).units = A.units + 3 := rfl; omega
    have tk := tk_of (P := P) (w := w) (K := K) (mg := mg) (base := base) (N := ["d", "n", "rest", "k"]) (qual := "_law_shuffled") (scope := defScope s__law_shuffled) (f := fa) (cdv := cdv) (A := A) (outer := outer) (s := s) (H := H) (E := E)
    have hp := hp_of (P := P) (w := w) (K := K) (mg := mg) (base := base) (N := ["d", "n", "rest", "k"]) (qual := "_law_shuffled") (scope := defScope s__law_shuffled) (f := fa) (cdv := cdv) (A := A) (outer := outer) (s := s) (H := H) (E := E)
    exact (dss_cons (ds_set sc__law_shuffled.nd (de_lr1 rfl (de_v 1) T.z_list T.z_range))
  (dss_one (ds_ret (de_t1 call_tupleF ok_tuple (de_dp (de_comp (own := [(("k" : Str), 3)]) rfl sc__law_shuffled.nd (di_r1 (de_v 1) T.z_range) (blkOk_by (by kernel_rfl)) (fun s H C cl fp => (dg_n sc__law_shuffled.nd)) (fun s H C cl fp => dts_nil) (fun s H C cl fp => (de_pop 2 (de_call ((t__law_take T).mono (by omega)) hr takes0 (dr_lent 0 (dr_va (de_len (dp_v 2) T.z_len) dr_nil))))))) T.z_tuple bb_tuple))))
theorem t__law_tree (T : Txt P w K mg base) : Fk P w K mg base 5 "_law_tree" ["d", "n", "more", "top"] [0] F__law_tree := by
    obtain ⟨fa, fd, Fn, bn, gm⟩ := T.f__law_tree.ex
    refine fk_def (c := c__law_tree) (k := 4) Fn sc__law_tree bn gm (by decide) fun cdv A outer s H E hr B hB => ?_
    obtain ⟨a0, rfl⟩ := one_B hB
    have hu : A.units + 3 + 66 < cLine := by have := hr.un; have e : (A.deeper (envOfC "_law_tree" (defScope s__law_tree) s.heap.objs.size fa cdv)).units = A.units + 3 := rfl; omega
    have tk := tk_of (P := P) (w := w) (K := K) (mg := mg) (base := base) (N := ["d", "n", "more", "top", "joints", "names", "edges", "k", "a"]) (qual := "_law_tree") (scope := defScope s__law_tree) (f := fa) (cdv := cdv) (A := A) (outer := outer) (s := s) (H := H) (E := E)
    have hp := hp_of (P := P) (w := w) (K := K) (mg := mg) (base := base) (N := ["d", "n", "more", "top", "joints", "names", "edges", "k", "a"]) (qual := "_law_tree") (scope := defScope s__law_tree) (f := fa) (cdv := cdv) (A := A) (outer := outer) (s := s) (H := H) (E := E)
    exact (dss_cons (ds_set sc__law_tree.nd (de_add (de_v 1) (de_call ((t__law_take T).mono (by omega)) hr tk (dr_lent 0 (dr_va (de_add (de_v 2) de_int) dr_nil)))))
  (dss_cons (ds_set sc__law_tree.nd (de_call ((t__law_shuffled T).mono (by omega)) hr tk (dr_lent 0 (dr_va (de_v 4) dr_nil))))
  (dss_cons (ds_set sc__law_tree.nd (de_lst dn_nil))
  (dss_cons (ds_for hp rfl (di_r2 de_int (de_v 4) T.z_range) (dg_n sc__law_tree.nd) (dss_cons (ds_set sc__law_tree.nd (de_ixP 5 (de_call ((t__law_take T).mono (by omega)) hr tk (dr_lent 0 (dr_va (de_v 7) dr_nil)))))
  (dss_one (ds_drop (de_app 6 (de_tupn (dn_cons (de_b2 (call_min2 rfl) ok_min2 (de_v 8) (de_ixP 5 (de_v 7)) T.z_min bb_min) (dn_cons (de_b2 (call_max2 rfl) ok_max2 (de_v 8) (de_ixP 5 (de_v 7)) T.z_max bb_max) (dn_cons (de_add de_int (de_call ((t__law_take T).mono (by omega)) hr tk (dr_lent 0 (dr_va (de_v 3) dr_nil)))) dn_nil)))))))))
  (dss_one (ds_ret (de_lst (dn_cons (de_v 4) (dn_cons (de_t1 call_tupleF ok_tuple (de_dp (de_sort hu (dp_v 6) T.z_sorted)) T.z_tuple bb_tuple) dn_nil)))))))))
theorem t__law_along (T : Txt P w K mg base) : Fk P w K mg base 3 "_law_along" ["joints", "edges"] [] F__law_along := by
    obtain ⟨fa, fd, Fn, bn, gm⟩ := T.f__law_along.ex
    refine fk_def (c := c__law_along) (k := 2) Fn sc__law_along bn gm (by decide) fun cdv A outer s H E hr B hB => ?_
    obtain rfl : B = [] := by simpa using hB
    have hu : A.units + 3 + 66 < cLine := by have := hr.un; have e : (A.deeper (envOfC "_law_along" (defScope s__law_along) s.heap.objs.size fa cdv)).units = A.units + 3 := rfl; omega
    have tk := tk_of (P := P) (w := w) (K := K) (mg := mg) (base := base) (N := ["joints", "edges", "far", "i", "turn", "a", "b", "size", "j"]) (qual := "_law_along") (scope := defScope s__law_along) (f := fa) (cdv := cdv) (A := A) (outer := outer) (s := s) (H := H) (E := E)
    have hp := hp_of (P := P) (w := w) (K := K) (mg := mg) (base := base) (N := ["joints", "edges", "far", "i", "turn", "a", "b", "size", "j"]) (qual := "_law_along") (scope := defScope s__law_along) (f := fa) (cdv := cdv) (A := A) (outer := outer) (s := s) (H := H) (E := E)
    exact (dss_cons (ds_setCO (own := [(("i" : Str), 3)]) rfl sc__law_along.nd (di_r1 (de_v 0) T.z_range) (blkOk_by (by kernel_rfl)) (fun s H C cl fp => (dg_n sc__law_along.nd)) (fun s H C cl fp => dts_nil) (fun s H C cl fp => (de_comp (own := [(("j" : Str), 8)]) rfl sc__law_along.nd (di_r1 (de_v 0) T.z_range) (blkOk_by (by kernel_rfl)) (fun s H C cl fp => (dg_n sc__law_along.nd)) (fun s H C cl fp => dts_nil) (fun s H C cl fp => (de_if (dt_cmp (opEq hu) ok_eq.vv (de_v 3) (de_v 8)) de_int de_non)))))
  (dss_cons (ds_for hp rfl (di_r1 (de_v 0) T.z_range) (dg_n sc__law_along.nd) (dss_one (ds_for hp rfl (di_r1 (de_v 0) T.z_range) (dg_n sc__law_along.nd) (dss_one (ds_for hp rfl (di_l (de_v 1)) (dg_t rfl (dgs_cons (dg_n sc__law_along.nd) (dgs_cons (dg_n sc__law_along.nd) (dgs_cons (dg_n sc__law_along.nd) dgs_nil)))) (dss_cons (ds_if (DW.dt (dw_and (dt_cmp op_not ok_not (de_ixPP 2 (dn_v 3) (dn_v 5)) de_non) (dw_and1 (dt_cmp op_is ok_is (de_ixPP 2 (dn_v 3) (dn_v 6)) de_non)))) (dss_one (ds_to (de_add (de_ixPP 2 (dn_v 3) (dn_v 5)) (de_v 7)) (dg_ix2 2 (dn_v 3) (dn_v 6)))) dss_nil)
  (dss_one (ds_if (DW.dt (dw_and (dt_cmp op_not ok_not (de_ixPP 2 (dn_v 3) (dn_v 6)) de_non) (dw_and1 (dt_cmp op_is ok_is (de_ixPP 2 (dn_v 3) (dn_v 5)) de_non)))) (dss_one (ds_to (de_add (de_ixPP 2 (dn_v 3) (dn_v 6)) (de_v 7)) (dg_ix2 2 (dn_v 3) (dn_v 5)))) dss_nil))))))))
  (dss_one (ds_ret (de_v 2)))))
theorem t__law_table (T : Txt P w K mg base) : Fk P w K mg base 4 "_law_table" ["d", "n", "top"] [0] F__law_table := by
    obtain ⟨fa, fd, Fn, bn, gm⟩ := T.f__law_table.ex
    refine fk_def (c := c__law_table) (k := 3) Fn sc__law_table bn gm (by decide) fun cdv A outer s H E hr B hB => ?_
    obtain ⟨a0, rfl⟩ := one_B hB
    have hu : A.units + 3 + 66 < cLine := by have := hr.un; have e : (A.deeper (envOfC "_law_table" (defScope s__law_table) s.heap.objs.size fa cdv)).units = A.units + 3 := rfl; omega
    have tk := tk_of (P := P) (w := w) (K := K) (mg := mg) (base := base) (N := ["d", "n", "top", "rows", "i", "j", "k", "row"]) (qual := "_law_table") (scope := defScope s__law_table) (f := fa) (cdv := cdv) (A := A) (outer := outer) (s := s) (H := H) (E := E)
    have hp := hp_of (P := P) (w := w) (K := K) (mg := mg) (base := base) (N := ["d", "n", "top", "rows", "i", "j", "k", "row"]) (qual := "_law_table") (scope := defScope s__law_table) (f := fa) (cdv := cdv) (A := A) (outer := outer) (s := s) (H := H) (E := E)
    exact (dss_cons (ds_setCO (own := [(("k" : Str), 6)]) rfl sc__law_table.nd (di_r1 (de_v 1) T.z_range) (blkOk_by (by kernel_rfl)) (fun s H C cl fp => (dg_n sc__law_table.nd)) (fun s H C cl fp => dts_nil) (fun s H C cl fp => (de_mul (de_lst (dn_cons de_int dn_nil)) (de_v 1))))
  (dss_cons (ds_for hp rfl (di_r1 (de_v 1) T.z_range) (dg_n sc__law_table.nd) (dss_one (ds_for hp rfl (di_r1 (de_v 4) T.z_range) (dg_n sc__law_table.nd) (dss_cons (ds_to (de_add de_int (de_call ((t__law_take T).mono (by omega)) hr tk (dr_lent 0 (dr_va (de_v 2) dr_nil)))) (dg_ix2 3 (dn_v 4) (dn_v 5)))
  (dss_one (ds_to (de_ixPP 3 (dn_v 4) (dn_v 5)) (dg_ix2 3 (dn_v 5) (dn_v 4))))))))
  (dss_one (ds_ret (de_t1 call_tupleF ok_tuple (de_dp (de_comp (own := [(("row" : Str), 7)]) rfl sc__law_table.nd (di_l (de_v 3)) (blkOk_by (by kernel_rfl)) (fun s H C cl fp => (dg_n sc__law_table.nd)) (fun s H C cl fp => dts_nil) (fun s H C cl fp => (de_t1 call_tupleF ok_tuple (dp_v 7) T.z_tuple bb_tuple)))) T.z_tuple bb_tuple)))))
theorem t__law_short (T : Txt P w K mg base) : Fk P w K mg base 3 "_law_short" ["table"] [] F__law_short := by
    obtain ⟨fa, fd, Fn, bn, gm⟩ := T.f__law_short.ex
    refine fk_def (c := c__law_short) (k := 2) Fn sc__law_short bn gm (by decide) fun cdv A outer s H E hr B hB => ?_
    obtain rfl : B = [] := by simpa using hB
    have hu : A.units + 3 + 66 < cLine := by have := hr.un; have e : (A.deeper (envOfC "_law_short" (defScope s__law_short) s.heap.objs.size fa cdv)).units = A.units + 3 := rfl; omega
    have tk := tk_of (P := P) (w := w) (K := K) (mg := mg) (base := base) (N := ["table", "n", "rows", "k", "i", "j", "row"]) (qual := "_law_short") (scope := defScope s__law_short) (f := fa) (cdv := cdv) (A := A) (outer := outer) (s := s) (H := H) (E := E)
    have hp := hp_of (P := P) (w := w) (K := K) (mg := mg) (base := base) (N := ["table", "n", "rows", "k", "i", "j", "row"]) (qual := "_law_short") (scope := defScope s__law_short) (f := fa) (cdv := cdv) (A := A) (outer := outer) (s := s) (H := H) (E := E)
    exact (dss_cons (ds_set sc__law_short.nd (de_len (dp_v 0) T.z_len))
  (dss_cons (ds_setCO (own := [(("row" : Str), 6)]) rfl sc__law_short.nd (di_l (de_v 0)) (blkOk_by (by kernel_rfl)) (fun s H C cl fp => (dg_n sc__law_short.nd)) (fun s H C cl fp => dts_nil) (fun s H C cl fp => (de_t1 call_list_of ok_list (dp_v 6) T.z_list bb_list)))
  (dss_cons (ds_for hp rfl (di_r1 (de_v 1) T.z_range) (dg_n sc__law_short.nd) (dss_one (ds_for hp rfl (di_r1 (de_v 1) T.z_range) (dg_n sc__law_short.nd) (dss_one (ds_for hp rfl (di_r1 (de_v 1) T.z_range) (dg_n sc__law_short.nd) (dss_one (ds_to (de_b2 (call_min2 rfl) ok_min2 (de_ixPP 2 (dn_v 4) (dn_v 5)) (de_add (de_ixPP 2 (dn_v 4) (dn_v 3)) (de_ixPP 2 (dn_v 3) (dn_v 5))) T.z_min bb_min) (dg_ix2 2 (dn_v 4) (dn_v 5)))))))))
  (dss_one (ds_ret (de_t1 call_tupleF ok_tuple (de_dp (de_comp (own := [(("row" : Str), 6)]) rfl sc__law_short.nd (di_l (de_v 2)) (blkOk_by (by kernel_rfl)) (fun s H C cl fp => (dg_n sc__law_short.nd)) (fun s H C cl fp => dts_nil) (fun s H C cl fp => (de_t1 call_tupleF ok_tuple (dp_v 6) T.z_tuple bb_tuple)))) T.z_tuple bb_tuple))))))
theorem t__law_pick (T : Txt P w K mg base) : Fk P w K mg base 4 "_law_pick" ["d", "menu"] [0] F__law_pick := by
    obtain ⟨fa, fd, Fn, bn, gm⟩ := T.f__law_pick.ex
    refine fk_def (c := c__law_pick) (k := 3) Fn sc__law_pick bn gm (by decide) fun cdv A outer s H E hr B hB => ?_
    obtain ⟨a0, rfl⟩ := one_B hB
    have hu : A.units + 3 + 66 < cLine := by have := hr.un; have e : (A.deeper (envOfC "_law_pick" (defScope s__law_pick) s.heap.objs.size fa cdv)).units = A.units + 3 := rfl; omega
    have tk := tk_of (P := P) (w := w) (K := K) (mg := mg) (base := base) (N := ["d", "menu"]) (qual := "_law_pick") (scope := defScope s__law_pick) (f := fa) (cdv := cdv) (A := A) (outer := outer) (s := s) (H := H) (E := E)
    have hp := hp_of (P := P) (w := w) (K := K) (mg := mg) (base := base) (N := ["d", "menu"]) (qual := "_law_pick") (scope := defScope s__law_pick) (f := fa) (cdv := cdv) (A := A) (outer := outer) (s := s) (H := H) (E := E)
    exact (dss_one (ds_ret (de_ixP 1 (de_call ((t__law_take T).mono (by omega)) hr tk (dr_lent 0 (dr_va (de_len (dp_v 1) T.z_len) dr_nil))))))
theorem t__law_distances (T : Txt P w K mg base) : Fk P w K mg base 6 "_law_distances" ["d", "n"] [0] F__law_distances := by
    obtain ⟨fa, fd, Fn, bn, gm⟩ := T.f__law_distances.ex
    refine fk_def (c := c__law_distances) (k := 5) Fn sc__law_distances bn gm (by decide) fun cdv A outer s H E hr B hB => ?_
    obtain ⟨a0, rfl⟩ := one_B hB
    have hu : A.units + 3 + 66 < cLine := by have := hr.un; have e : (A.deeper (envOfC "_law_distances" (defScope s__law_distances) s.heap.objs.size fa cdv)).units = A.units + 3 := rfl; omega
    have tk := tk_of (P := P) (w := w) (K := K) (mg := mg) (base := base) (N := ["d", "n", "menu", "joints", "edges", "far", "rows", "k", "i", "j", "row"]) (qual := "_law_distances") (scope := defScope s__law_distances) (f := fa) (cdv := cdv) (A := A) (outer := outer) (s := s) (H := H) (E := E)
    have hp := hp_of (P := P) (w := w) (K := K) (mg := mg) (base := base) (N := ["d", "n", "menu", "joints", "edges", "far", "rows", "k", "i", "j", "row"]) (qual := "_law_distances") (scope := defScope s__law_distances) (f := fa) (cdv := cdv) (A := A) (outer := outer) (s := s) (H := H) (E := E)
    exact (dss_cons (ds_set sc__law_distances.nd (de_call ((t__law_take T).mono (by omega)) hr tk (dr_lent 0 (dr_va de_int dr_nil))))
  (dss_cons (ds_if (dt_cmp (opEq hu) ok_eq.vv (de_v 2) de_int) (dss_cons (ds_to (de_call ((t__law_tree T).mono (by omega)) hr tk (dr_lent 0 (dr_va (de_v 1) (dr_va de_int (dr_va de_int dr_nil))))) (dg_tl rfl (dgs_cons (dg_n sc__law_distances.nd) (dgs_cons (dg_n sc__law_distances.nd) dgs_nil))))
  (dss_cons (ds_set sc__law_distances.nd (de_call ((t__law_along T).mono (by omega)) hr tk (dr_va (de_v 3) (dr_va (de_v 4) dr_nil))))
  (dss_one (ds_ret (de_t1 call_tupleF ok_tuple (de_dp (de_comp (own := [(("row" : Str), 10)]) rfl sc__law_distances.nd (di_l (de_cut (de_v 5) do_no (do_some (de_v 1)))) (blkOk_by (by kernel_rfl)) (fun s H C cl fp => (dg_n sc__law_distances.nd)) (fun s H C cl fp => dts_nil) (fun s H C cl fp => (de_t1 call_tupleF ok_tuple (de_dp (de_cut (de_v 10) do_no (do_some (de_v 1)))) T.z_tuple bb_tuple)))) T.z_tuple bb_tuple))))) dss_nil)
  (dss_cons (ds_if (dt_cmp (opEq hu) ok_eq.vv (de_v 2) de_int) (dss_cons (ds_setCO (own := [(("row" : Str), 10)]) rfl sc__law_distances.nd (di_l (de_call ((t__law_table T).mono (by omega)) hr tk (dr_lent 0 (dr_va (de_v 1) (dr_va de_int dr_nil))))) (blkOk_by (by kernel_rfl)) (fun s H C cl fp => (dg_n sc__law_distances.nd)) (fun s H C cl fp => dts_nil) (fun s H C cl fp => (de_t1 call_list_of ok_list (dp_v 10) T.z_list bb_list)))
  (dss_cons (ds_for hp rfl (di_r1 (de_v 1) T.z_range) (dg_n sc__law_distances.nd) (dss_one (ds_for hp rfl (di_r1 (de_v 1) T.z_range) (dg_n sc__law_distances.nd) (dss_one (ds_for hp rfl (di_r1 (de_v 1) T.z_range) (dg_n sc__law_distances.nd) (dss_one (ds_to (de_b2 (call_min2 rfl) ok_min2 (de_ixPP 6 (dn_v 8) (dn_v 9)) (de_b2 (call_max2 rfl) ok_max2 (de_ixPP 6 (dn_v 8) (dn_v 7)) (de_ixPP 6 (dn_v 7) (dn_v 9)) T.z_max bb_max) T.z_min bb_min) (dg_ix2 6 (dn_v 8) (dn_v 9)))))))))
  (dss_one (ds_ret (de_t1 call_tupleF ok_tuple (de_dp (de_comp (own := [(("row" : Str), 10)]) rfl sc__law_distances.nd (di_l (de_v 6)) (blkOk_by (by kernel_rfl)) (fun s H C cl fp => (dg_n sc__law_distances.nd)) (fun s H C cl fp => dts_nil) (fun s H C cl fp => (de_t1 call_tupleF ok_tuple (dp_v 10) T.z_tuple bb_tuple)))) T.z_tuple bb_tuple))))) dss_nil)
  (dss_one (ds_ret (de_call ((t__law_short T).mono (by omega)) hr tk (dr_va (de_call ((t__law_table T).mono (by omega)) hr tk (dr_lent 0 (dr_va (de_v 1) (dr_va (de_call ((t__law_pick T).mono (by omega)) hr tk (dr_lent 0 (dr_va (de_lst (dn_cons de_int (dn_cons de_int (dn_cons de_int (dn_cons de_int (dn_cons de_int dn_nil)))))) dr_nil))) dr_nil)))) dr_nil)))))))
theorem t__law_part (T : Txt P w K mg base) : Fk P w K mg base 3 "_law_part" ["table", "part"] [] F__law_part := by
    obtain ⟨fa, fd, Fn, bn, gm⟩ := T.f__law_part.ex
    refine fk_def (c := c__law_part) (k := 2) Fn sc__law_part bn gm (by decide) fun cdv A outer s H E hr B hB => ?_
    obtain rfl : B = [] := by simpa using hB
    have hu : A.units + 3 + 66 < cLine := by have := hr.un; have e : (A.deeper (envOfC "_law_part" (defScope s__law_part) s.heap.objs.size fa cdv)).units = A.units + 3 := rfl; omega
    have tk := tk_of (P := P) (w := w) (K := K) (mg := mg) (base := base) (N := ["table", "part", "i", "j"]) (qual := "_law_part") (scope := defScope s__law_part) (f := fa) (cdv := cdv) (A := A) (outer := outer) (s := s) (H := H) (E := E)
    have hp := hp_of (P := P) (w := w) (K := K) (mg := mg) (base := base) (N := ["table", "part", "i", "j"]) (qual := "_law_part") (scope := defScope s__law_part) (f := fa) (cdv := cdv) (A := A) (outer := outer) (s := s) (H := H) (E := E)
    exact (dss_one (ds_ret (de_t1 call_tupleF ok_tuple (de_dp (de_comp (own := [(("i" : Str), 2)]) rfl sc__law_part.nd (di_l (de_v 1)) (blkOk_by (by kernel_rfl)) (fun s H C cl fp => (dg_n sc__law_part.nd)) (fun s H C cl fp => dts_nil) (fun s H C cl fp => (de_t1 call_tupleF ok_tuple (de_dp (de_comp (own := [(("j" : Str), 3)]) rfl sc__law_part.nd (di_l (de_v 1)) (blkOk_by (by kernel_rfl)) (fun s H C cl fp => (dg_n sc__law_part.nd)) (fun s H C cl fp => dts_nil) (fun s H C cl fp => (de_ix (de_ixP 0 (de_v 2)) (de_v 3))))) T.z_tuple bb_tuple)))) T.z_tuple bb_tuple)))
theorem t_law (T : Txt P w K mg base) {fa : Addr} {fd : FuncData} (Fn : Fun K "law" "law" s_law fa fd) (law : ∀ ns : List Int, ns.length ≤ 63 → F_law [.v (.lst (ns.map .int))] = .ok (.v (.bl true)) []) : FnOk P w K mg base CX0 9 fa fd ["script"] (spLaw K) := by
  refine law_def (c := c_law) (k := 8) Fn sc_law (fun cdv A outer s H E hr => ?_) law
  have hu : A.units + 3 + 66 < cLine := by have := hr.un; have e : (A.deeper (envOfC "law" (defScope s_law) s.heap.objs.size fa cdv)).units = A.units + 3 := rfl; omega
  exact (dss_cons (ds_set sc_law.nd (de_call ((t__law_begin T).mono (by omega)) hr takes0 (dr_va (de_v 0) dr_nil)))
  (dss_cons (ds_set sc_law.nd (de_add de_int (de_call ((t__law_take T).mono (by omega)) hr takes0 (dr_lent 1 (dr_va de_int dr_nil)))))
  (dss_cons (ds_set sc_law.nd (de_call ((t__law_distances T).mono (by omega)) hr takes0 (dr_lent 1 (dr_va (de_v 2) dr_nil))))
  (dss_cons (ds_set sc_law.nd (de_call ((t__law_part T).mono (by omega)) hr takes0 (dr_va (de_v 3) (dr_va (de_lr1 rfl (de_sub (de_v 2) de_int) T.z_list T.z_range) dr_nil))))
  (dss_cons (ds_set sc_law.nd (de_cut (de_ixP 3 (de_sub (de_v 2) de_int)) do_no (do_some (de_sub (de_v 2) de_int))))
  (dss_cons (ds_if (DW.dt (dw_or (dt_cmp (opNe hu) ok_ne.vv (de_call ((t_more_paper T).mono (by omega)) hr takes0 (dr_va (de_v 4) (dr_va (de_v 5) dr_nil))) (de_tupn (dn_cons de_str dn_nil))) (dw_or1 (dt_cmp (opNe hu) ok_ne.vv (de_call ((t_with_point T).mono (by omega)) hr takes0 (dr_va (de_v 4) (dr_va (de_v 5) dr_nil))) (de_v 3))))) (dss_one (ds_ret de_bl)) dss_nil)
  (dss_cons (ds_if (DW.dt (dw_or (dt_cmp (opNe hu) ok_ne.vv (de_call ((t_glued T).mono (by omega)) hr takes0 (dr_va (de_v 3) (dr_va (de_v 3) (dr_va (de_v 2) dr_nil)))) (de_v 3)) (dw_or1 (dt_cmp (opNe hu) ok_ne.vv (de_call ((t_least_glued T).mono (by omega)) hr takes0 (dr_va (de_v 3) (dr_va (de_v 3) (dr_va (de_v 2) dr_nil)))) (de_v 3))))) (dss_one (ds_ret de_bl)) dss_nil)
  (dss_cons (ds_set sc_law.nd (de_add de_int (de_call ((t__law_take T).mono (by omega)) hr takes0 (dr_lent 1 (dr_va (de_sub (de_v 2) de_int) dr_nil)))))
  (dss_cons (ds_set sc_law.nd (de_lr2 rfl (de_v 6) (de_v 2) T.z_list T.z_range))
  (dss_cons (ds_set sc_law.nd (de_comp (own := [(("x" : Str), 17)]) rfl sc_law.nd (di_l (de_v 7)) (blkOk_by (by kernel_rfl)) (fun s H C cl fp => (dg_n sc_law.nd)) (fun s H C cl fp => (dts_one (dt_cmp (opEq hu) ok_eq.vv (de_call ((t__law_take T).mono (by omega)) hr takes0 (dr_lent 1 (dr_va de_int dr_nil))) de_int))) (fun s H C cl fp => (de_v 17))))
  (dss_cons (ds_setC (own := [(("x" : Str), 17)]) rfl sc_law.nd (di_l (de_v 7)) (blkOk_by (by kernel_rfl)) (fun s H C cl fp => (dg_n sc_law.nd)) (fun s H C cl fp => (dts_one (dt_cmpP (op_in2 hu) ok_notIn (de_v 17) (dp_v 8)))) (fun s H C cl fp => (de_v 17)))
  (dss_cons (ds_set sc_law.nd (de_add (de_lr1 rfl (de_v 6) T.z_list T.z_range) (de_v 8)))
  (dss_cons (ds_set sc_law.nd (de_add (de_lr1 rfl (de_v 6) T.z_list T.z_range) (de_v 9)))
  (dss_cons (ds_set sc_law.nd (de_call ((t_glued T).mono (by omega)) hr takes0 (dr_va (de_call ((t__law_part T).mono (by omega)) hr takes0 (dr_va (de_v 3) (dr_va (de_v 10) dr_nil))) (dr_va (de_call ((t__law_part T).mono (by omega)) hr takes0 (dr_va (de_v 3) (dr_va (de_v 11) dr_nil))) (dr_va (de_v 6) dr_nil)))))
  (dss_cons (ds_set sc_law.nd (de_call ((t_least_glued T).mono (by omega)) hr takes0 (dr_va (de_call ((t__law_part T).mono (by omega)) hr takes0 (dr_va (de_v 3) (dr_va (de_v 10) dr_nil))) (dr_va (de_call ((t__law_part T).mono (by omega)) hr takes0 (dr_va (de_v 3) (dr_va (de_v 11) dr_nil))) (dr_va (de_v 6) dr_nil)))))
  (dss_cons (ds_set sc_law.nd (de_add (de_v 10) (de_v 9)))
  (dss_cons (ds_for PassesOwn.never rfl (di_r1 (de_v 2) T.z_range) (dg_n sc_law.nd) (dss_one (ds_for PassesOwn.never rfl (di_r1 (de_v 2) T.z_range) (dg_n sc_law.nd) (dss_cons (ds_set sc_law.nd (de_ixP 14 (de_v 15)))
  (dss_cons (ds_set sc_law.nd (de_ixP 14 (de_v 16)))
  (dss_cons (ds_if (DW.dt (dw_or (dt_cmp op_lt ok_lt (de_ix (de_ixP 12 (de_v 15)) (de_v 16)) (de_ix (de_ixP 3 (de_v 17)) (de_v 18))) (dw_or1 (dt_cmp op_gt ok_gt (de_ix (de_ixP 13 (de_v 15)) (de_v 16)) (de_ix (de_ixP 3 (de_v 17)) (de_v 18)))))) (dss_one (ds_ret de_bl)) dss_nil)
  (dss_one (ds_if (DW.dt (dw_and (DW.dt (dw_or (DW.dt (dw_and (dt_cmpP (op_in1 hu) ok_in (de_v 17) (dp_v 10)) (dw_and1 (dt_cmpP (op_in1 hu) ok_in (de_v 18) (dp_v 10))))) (dw_or1 (DW.dt (dw_and (dt_cmpP (op_in1 hu) ok_in (de_v 17) (dp_v 11)) (dw_and1 (dt_cmpP (op_in1 hu) ok_in (de_v 18) (dp_v 11)))))))) (dw_and1 (DW.dt (dw_or (dt_cmp (opNe hu) ok_ne.vv (de_ix (de_ixP 12 (de_v 15)) (de_v 16)) (de_ix (de_ixP 3 (de_v 17)) (de_v 18))) (dw_or1 (dt_cmp (opNe hu) ok_ne.vv (de_ix (de_ixP 13 (de_v 15)) (de_v 16)) (de_ix (de_ixP 3 (de_v 17)) (de_v 18))))))))) (dss_one (ds_ret de_bl)) dss_nil))))))))
  (dss_cons (ds_if (DW.dt (dw_or (dt_cmp (opNe hu) ok_ne.vv (de_call ((t_distance_paper T).mono (by omega)) hr takes0 (dr_va (de_v 12) dr_nil)) (de_tupn (dn_cons de_str dn_nil))) (dw_or1 (dt_cmp (opNe hu) ok_ne.vv (de_call ((t__law_part T).mono (by omega)) hr takes0 (dr_va (de_v 12) (dr_va (de_lr1 rfl (de_len (dp_v 10) T.z_len) T.z_list T.z_range) dr_nil))) (de_call ((t__law_part T).mono (by omega)) hr takes0 (dr_va (de_v 3) (dr_va (de_v 10) dr_nil))))))) (dss_one (ds_ret de_bl)) dss_nil)
  (dss_cons (ds_set sc_law.nd (de_call ((t_glued T).mono (by omega)) hr takes0 (dr_va (de_call ((t__law_part T).mono (by omega)) hr takes0 (dr_va (de_v 3) (dr_va (de_v 11) dr_nil))) (dr_va (de_call ((t__law_part T).mono (by omega)) hr takes0 (dr_va (de_v 3) (dr_va (de_v 10) dr_nil))) (dr_va (de_v 6) dr_nil)))))
  (dss_cons (ds_set sc_law.nd (de_add (de_v 11) (de_v 8)))
  (dss_cons (ds_setC (own := [(("x" : Str), 17)]) rfl sc_law.nd (di_l (de_v 14)) (blkOk_by (by kernel_rfl)) (fun s H C cl fp => (dg_n sc_law.nd)) (fun s H C cl fp => dts_nil) (fun s H C cl fp => (de_metL PySem.F.slot_list_index PySem.F.type_list_index (mt_ixL hu) (de_v 20) (de_v 17))))
  (dss_cons (ds_if (dt_cmp (opNe hu) ok_ne.vv (de_call ((t__law_part T).mono (by omega)) hr takes0 (dr_va (de_v 19) (dr_va (de_v 21) dr_nil))) (de_v 12)) (dss_one (ds_ret de_bl)) dss_nil)
  (dss_cons (ds_set sc_law.nd (de_call ((t__law_part T).mono (by omega)) hr takes0 (dr_va (de_v 3) (dr_va (de_lr1 rfl (de_v 6) T.z_list T.z_range) dr_nil))))
  (dss_cons (ds_setC (own := [(("x" : Str), 17)]) rfl sc_law.nd (di_l (de_v 7)) (blkOk_by (by kernel_rfl)) (fun s H C cl fp => (dg_n sc_law.nd)) (fun s H C cl fp => dts_nil) (fun s H C cl fp => (de_call ((t_with_point T).mono (by omega)) hr takes0 (dr_va (de_v 22) (dr_va (de_t1 call_tupleF ok_tuple (de_dp (de_comp (own := [(("y" : Str), 18)]) rfl sc_law.nd (di_r1 (de_v 6) T.z_range) (blkOk_by (by kernel_rfl)) (fun s H C cl fp => (dg_n sc_law.nd)) (fun s H C cl fp => dts_nil) (fun s H C cl fp => (de_ix (de_ixP 3 (de_v 17)) (de_v 18))))) T.z_tuple bb_tuple) dr_nil)))))
  (dss_cons (ds_if (DW.dt (dw_and (dt_cmp op_gt ok_gt (de_len (dp_v 23) T.z_len) de_int) (dw_and1 (dt_cmp op_le ok_le (de_v 2) de_int)))) (dss_cons (ds_set sc_law.nd (de_ixP 23 de_int))
  (dss_cons (ds_for PassesOwn.never rfl (di_l (de_cut (de_v 23) (do_some de_int) do_no)) (dg_n sc_law.nd) (dss_one (ds_set sc_law.nd (de_call ((t_glued T).mono (by omega)) hr takes0 (dr_va (de_v 24) (dr_va (de_v 25) (dr_va (de_v 6) dr_nil)))))))
  (dss_one (ds_for PassesOwn.never rfl (di_r1 (de_len (dp_v 7) T.z_len) T.z_range) (dg_n sc_law.nd) (dss_one (ds_for PassesOwn.never rfl (di_r1 (de_v 15) T.z_range) (dg_n sc_law.nd) (dss_one (ds_if (dt_cmp (opNe hu) ok_ne.vv (de_ix (de_ixP 24 (de_add (de_v 6) (de_v 15))) (de_add (de_v 6) (de_v 16))) (de_b1 (call_minL rfl hu) ok_minA (de_dp (de_comp (own := [(("s" : Str), 26)]) rfl sc_law.nd (di_r1 (de_v 6) T.z_range) (blkOk_by (by kernel_rfl)) (fun s H C cl fp => (dg_n sc_law.nd)) (fun s H C cl fp => dts_nil) (fun s H C cl fp => (de_add (de_ix (de_ixP 3 (de_ixP 7 (de_v 15))) (de_v 26)) (de_ix (de_ixP 3 (de_v 26)) (de_ixP 7 (de_v 16))))))) T.z_min bb_min)) (dss_one (ds_ret de_bl)) dss_nil)))))))) dss_nil)
  (dss_one (ds_ret de_bl)))))))))))))))))))))))))))
end
end G
end Fx
end

section
set_option linter.all false
/-! Px: how simp runs the combinators (written by mkpx.py). -/
namespace Fx
@[simp] theorem s_eC (d : D) (e : En) : eC d e = (.ok (.v d) e) := id rfl
@[simp] theorem s_eV (i : Nat) (e : En) : eV i e = (match e[i]? with
  | some (some (.v d)) => .ok (.v d) e
  | some (some (.o l)) => .ok (.v (.lst l)) (e.set i (some (.v (.lst l))))
  | some (some (.oo l)) => .ok (.v (.lst (l.map .lst))) (e.set i (some (.v (.lst (l.map .lst)))))
  | _ => .bad) := id rfl
@[simp] theorem s_eP (i : Nat) (e : En) : eP i e = (match e[i]? with
  | some (some x) => if x.flat then lift (x.d.map .v) e else .bad
  | _ => .bad) := id rfl
@[simp] theorem s_e1 (f : Vl → Option Vl) (a : M Vl) (e : En) : e1 f a e = ((a e).then fun x e => lift (f x) e) := id rfl
@[simp] theorem s_e2 (f : Vl → Vl → Option Vl) (a b : M Vl) (e : En) : e2 f a b e = ((a e).then fun x e => (b e).then fun y e => lift (f x y) e) := id rfl
@[simp] theorem s_tB (a : M Vl) (e : En) : tB a e = ((a e).then fun x e => lift x.bool e) := id rfl
@[simp] theorem s_tT (a : M Vl) (e : En) : tT a e = ((a e).then fun x e => lift x.truth e) := id rfl
@[simp] theorem s_tAnd (a b : M Bool) (e : En) : tAnd a b e = ((a e).then fun c e => if c then b e else .ok false e) := id rfl
@[simp] theorem s_tOr (a b : M Bool) (e : En) : tOr a b e = ((a e).then fun c e => if c then .ok true e else b e) := id rfl
@[simp] theorem s_tNot (a : M Bool) (e : En) : tNot a e = ((a e).then fun c e => .ok (!c) e) := id rfl
@[simp] theorem s_eB (a : M Bool) (e : En) : eB a e = ((a e).then fun c e => .ok (.v (.bl c)) e) := id rfl
@[simp] theorem s_eIf (t : M Bool) (a b : M Vl) (e : En) : eIf t a b e = ((t e).then fun c e => if c then a e else b e) := id rfl
@[simp] theorem s_eNil (e : En) : eNil  e = (.ok [] e) := id rfl
@[simp] theorem s_eCons (a : M Vl) (r : M (List D)) (e : En) : eCons a r e = ((a e).then fun x e => match x.d with
  | some d => (r e).then fun ds e => .ok (d :: ds) e
  | none => .bad) := id rfl
@[simp] theorem s_eTup (r : M (List D)) (e : En) : eTup r e = ((r e).then fun ds e => .ok (.v (.tup ds)) e) := id rfl
@[simp] theorem s_eLst (r : M (List D)) (e : En) : eLst r e = ((r e).then fun ds e => .ok (.o ds) e) := id rfl
@[simp] theorem s_eIxP (k : Nat) (b : M Vl) (e : En) : eIxP k b e = (match e[k]? with
  | some (some _) => (b e).then fun y e => (match e[k]? with
    | some (some x) => lift (oIx x y) e
    | _ => .bad)
  | _ => .bad) := id rfl
@[simp] theorem s_nI (i : Int) (e : En) : nI i e = (some i) := id rfl
@[simp] theorem s_nV (k : Nat) (e : En) : nV k e = (match e[k]? with
  | some (some (.v (.int i))) => some i
  | _ => none) := id rfl
@[simp] theorem s_nAdd (a b : N) (e : En) : nAdd a b e = ((a e).bind fun i => (b e).map fun j => i + j) := id rfl
@[simp] theorem s_nSub (a b : N) (e : En) : nSub a b e = ((a e).bind fun i => (b e).map fun j => i - j) := id rfl
@[simp] theorem s_nNeg (a : N) (e : En) : nNeg a e = ((a e).map fun i => -i) := id rfl
@[simp] theorem s_eIxPP (k : Nat) (a b : N) (e : En) : eIxPP k a b e = (match e[k]?, a e, b e with
  | some (some (.oo l)), some i, some j => lift (((atD l i).bind fun r => atD r j).map .v) e
  | _, _, _ => .bad) := id rfl
@[simp] theorem s_eLenO (k : Nat) (e : En) : eLenO k e = (match e[k]? with
  | some (some (.oo l)) => .ok (.v (.int l.length)) e
  | _ => .bad) := id rfl
@[simp] theorem s_pNo (e : En) : pNo  e = (.ok none e) := id rfl
@[simp] theorem s_pSome (a : M Vl) (e : En) : pSome a e = ((a e).then fun x e => lift (x.int.map some) e) := id rfl
@[simp] theorem s_eCut (a : M Vl) (lo hi : M (Option Int)) (e : En) : eCut a lo hi e = ((a e).then fun x e => (lo e).then fun l e => (hi e).then fun h e => lift (oCut x l h) e) := id rfl
@[simp] theorem s_eChain (f g : Vl → Vl → Option Vl) (a b c : M Vl) (e : En) : eChain f g a b c e = ((a e).then fun x e => (b e).then fun y e => match y, f x y with
  | .v _, some (.v (.bl true)) => (c e).then fun z e => lift (g y z) e
  | .v _, some (.v (.bl false)) => .ok (.v (.bl false)) e
  | _, _ => .bad) := id rfl
@[simp] theorem s_kMet (f : List D → D → Option D) (l : List D) (y : Vl) (e : En) : kMet f l y e = (match y.d with
  | some d => if d.dep ≤ 60 then lift ((f l d).map .v) e else .bad
  | none => .bad) := id rfl
@[simp] theorem s_kMetT (f : List D → D → Option D) (b : M Vl) (x : Vl) (e : En) : kMetT f b x e = (match x with
  | .v (.tup l) => (b e).then fun y e => kMet f l y e
  | _ => .bad) := id rfl
@[simp] theorem s_eMetT (f : List D → D → Option D) (a b : M Vl) (e : En) : eMetT f a b e = ((a e).then (kMetT f b)) := id rfl
@[simp] theorem s_kMetL (f : List D → D → Option D) (b : M Vl) (x : Vl) (e : En) : kMetL f b x e = (match x.lst? with
  | some l => (b e).then fun y e => kMet f l y e
  | none => .bad) := id rfl
@[simp] theorem s_eMetL (f : List D → D → Option D) (a b : M Vl) (e : En) : eMetL f a b e = ((a e).then (kMetL f b)) := id rfl
@[simp] theorem s_eAnd (a b : M Vl) (e : En) : eAnd a b e = ((a e).then fun x e => match x.bool with
  | some true => b e
  | some false => .ok (.v (.bl false)) e
  | none => .bad) := id rfl
@[simp] theorem s_eOr (a b : M Vl) (e : En) : eOr a b e = ((a e).then fun x e => match x.bool with
  | some true => .ok (.v (.bl true)) e
  | some false => b e
  | none => .bad) := id rfl
@[simp] theorem s_eCode (x : Ex) (e : En) : eCode x e = (match x.fs with
  | [("code", d)] => .ok (.v d) e
  | _ => .bad) := id rfl
@[simp] theorem s_iL (a : M Vl) (e : En) : iL a e = ((a e).then fun x e => lift x.items e) := id rfl
@[simp] theorem s_iR1 (a : M Vl) (e : En) : iR1 a e = ((a e).then fun x e => match x with
  | .v (.int j) => if smallI j then .ok (rng 0 j.toNat) e else .bad
  | _ => .bad) := id rfl
@[simp] theorem s_iR2 (a b : M Vl) (e : En) : iR2 a b e = ((a e).then fun x e => (b e).then fun y e => match x, y with
  | .v (.int i), .v (.int j) => if smallI i && smallI j then .ok (rng i (j - i).toNat) e else .bad
  | _, _ => .bad) := id rfl
@[simp] theorem s_iRv (k : Nat) (e : En) : iRv k e = (match e[k]? with
  | some (some (.rg lo hi)) => if smallI lo && smallI hi then .ok (rng lo (hi - lo).toNat) e else .bad
  | _ => .bad) := id rfl
@[simp] theorem s_kLr1 (x : Vl) (e : En) : kLr1 x e = (match x with
  | .v (.int j) => if rgOk 0 j then .ok (.o (rng 0 j.toNat)) e else .bad
  | _ => .bad) := id rfl
@[simp] theorem s_eLr1 (a : M Vl) (e : En) : eLr1 a e = ((a e).then kLr1) := id rfl
@[simp] theorem s_kLr2 (x y : Vl) (e : En) : kLr2 x y e = (match x, y with
  | .v (.int i), .v (.int j) => if rgOk i j then .ok (.o (rng i (j - i).toNat)) e else .bad
  | _, _ => .bad) := id rfl
@[simp] theorem s_eLr2 (a b : M Vl) (e : En) : eLr2 a b e = ((a e).then fun x e => (b e).then fun y e => kLr2 x y e) := id rfl
@[simp] theorem s_kTr1 (x : Vl) (e : En) : kTr1 x e = (match x with
  | .v (.int j) => if rgOk 0 j then .ok (.v (.tup (rng 0 j.toNat))) e else .bad
  | _ => .bad) := id rfl
@[simp] theorem s_eTr1 (a : M Vl) (e : En) : eTr1 a e = ((a e).then kTr1) := id rfl
@[simp] theorem s_kTr2 (x y : Vl) (e : En) : kTr2 x y e = (match x, y with
  | .v (.int i), .v (.int j) => if rgOk i j then .ok (.v (.tup (rng i (j - i).toNat))) e else .bad
  | _, _ => .bad) := id rfl
@[simp] theorem s_eTr2 (a b : M Vl) (e : En) : eTr2 a b e = ((a e).then fun x e => (b e).then fun y e => kTr2 x y e) := id rfl
@[simp] theorem s_iEnum (a : M Vl) (e : En) : iEnum a e = ((a e).then fun x e => lift (x.items.map (enumD 0)) e) := id rfl
@[simp] theorem s_iZip (a b : M Vl) (e : En) : iZip a b e = ((a e).then fun x e => (b e).then fun y e => match x.items, y.items with
  | some l, some m => .ok (zipD l m) e
  | _, _ => .bad) := id rfl
@[simp] theorem s_kZip (x y : Vl) (e : En) : kZip x y e = (match x, y with
  | .v (.tup l), .v (.tup m) => .ok (zipD l m) e
  | .v (.lst l), .v (.lst m) => .ok (zipD l m) e
  | _, _ => .bad) := id rfl
@[simp] theorem s_iZipS (a b : M Vl) (e : En) : iZipS a b e = ((a e).then fun x e => (b e).then fun y e => kZip x y e) := id rfl
@[simp] theorem s_gN (i : Nat) (d : D) (e : En) : gN i d e = (some (e.set i (some (.v d)))) := id rfl
@[simp] theorem s_gT (r : List (D → En → Option En)) (d : D) (e : En) : gT r d e = (match d with
  | .tup l => gs r l e
  | _ => none) := id rfl
@[simp] theorem s_gL (r : List (D → En → Option En)) (d : D) (e : En) : gL r d e = (match d with
  | .tup l => gs r l e
  | .lst l => gs r l e
  | _ => none) := id rfl
@[simp] theorem s_gIx (k : Nat) (f : N) (d : D) (e : En) : gIx k f d e = (match e[k]?, f e with
  | some (some (.o l)), some i => (ixN l.length i).map fun j => e.set k (some (.o (l.set j d)))
  | _, _ => none) := id rfl
@[simp] theorem s_gIxM (k : Nat) (m : M Vl) (d : D) (e : En) : gIxM k m d e = (match e[k]? with
  | some (some (.o _)) => (match m e with
    | .ok (.v (.int i)) e1 => (match e1[k]? with
      | some (some (.o l)) => (ixN l.length i).map fun j => e1.set k (some (.o (l.set j d)))
      | _ => none)
    | _ => none)
  | _ => none) := id rfl
@[simp] theorem s_gIx2 (k : Nat) (f g : N) (d : D) (e : En) : gIx2 k f g d e = (match e[k]?, f e, g e with
  | some (some (.oo l)), some i, some j => (ixN l.length i).bind fun a => (l[a]?).bind fun r => (ixN r.length j).map fun b => e.set k (some (.oo (l.set a (r.set b d))))
  | _, _, _ => none) := id rfl
@[simp] theorem s_mApp (k : Nat) (a : M Vl) (e : En) : mApp k a e = (match e[k]? with
  | some (some (.o _)) => (a e).then fun y e => (match y.d, e[k]? with
    | some d, some (some (.o l)) => if l.length < lim then .ok (.v .non) (e.set k (some (.o (l ++ [d])))) else .bad
    | _, _ => .bad)
  | _ => .bad) := id rfl
@[simp] theorem s_mExt (k : Nat) (a : M Vl) (e : En) : mExt k a e = (match e[k]? with
  | some (some (.o _)) => (a e).then fun y e => (match y, e[k]? with
    | .o r, some (some (.o l)) => if l.length + r.length ≤ lim then .ok (.v .non) (e.set k (some (.o (l ++ r)))) else .bad
    | _, _ => .bad)
  | _ => .bad) := id rfl
@[simp] theorem s_mPop (k : Nat) (a : M Vl) (e : En) : mPop k a e = (match e[k]? with
  | some (some (.o _)) => (a e).then fun y e => (match y, e[k]? with
    | .v (.int i), some (some (.o l)) => if smallI i then (match ixN l.length i with
      | some j => (match l[j]? with
        | some d => .ok (.v d) (e.set k (some (.o (l.eraseIdx j))))
        | none => .bad)
      | none => .bad) else .bad
    | _, _ => .bad)
  | _ => .bad) := id rfl
@[simp] theorem s_mPop0 (k : Nat) (e : En) : mPop0 k e = (match e[k]? with
  | some (some (.o l)) => (match l[l.length - 1]? with
    | some d => .ok (.v d) (e.set k (some (.o l.dropLast)))
    | none => .bad)
  | _ => .bad) := id rfl
@[simp] theorem s_tYes (e : En) : tYes  e = (.ok true e) := id rfl
@[simp] theorem s_eCall (f : F) (as : List Ar) (e : En) : eCall f as e = ((args as e).then fun l e => match f l with
  | .ok x outs => (match puts as outs e with
    | some e => .ok x e
    | none => .bad)
  | .ex x => .ex x (kill as e)
  | .bad => .bad) := id rfl
@[simp] theorem s_sNil (e : En) : sNil  e = (.nxt e) := id rfl
@[simp] theorem s_sSeq (a b : C) (e : En) : sSeq a b e = (match a e with
  | .nxt e => b e
  | o => o) := id rfl
@[simp] theorem s_sIf (t : M Bool) (a b : C) (e : En) : sIf t a b e = (match t e with
  | .ok c e => if c then a e else b e
  | .ex x e => .ex x e
  | .bad => .bad) := id rfl
@[simp] theorem s_sRet (a : M Vl) (e : En) : sRet a e = (match a e with
  | .ok x e => .ret x e
  | .ex x e => .ex x e
  | .bad => .bad) := id rfl
@[simp] theorem s_sDrop (a : M Vl) (e : En) : sDrop a e = (match a e with
  | .ok _ e => .nxt e
  | .ex x e => .ex x e
  | .bad => .bad) := id rfl
@[simp] theorem s_sSet (i : Nat) (a : M Vl) (e : En) : sSet i a e = (match a e with
  | .ok x e => .nxt (e.set i (some x))
  | .ex x e => .ex x e
  | .bad => .bad) := id rfl
@[simp] theorem s_sTo (g : D → En → Option En) (a : M Vl) (e : En) : sTo g a e = (match a e with
  | .ok x e => (match x.d.bind fun d => g d e with
    | some e => .nxt e
    | none => .bad)
  | .ex x e => .ex x e
  | .bad => .bad) := id rfl
@[simp] theorem s_sPar (i j : Nat) (r : M (List D)) (e : En) : sPar i j r e = (match r e with
  | .ok [x, y] e => .nxt ((e.set i (some (.v x))).set j (some (.v y)))
  | .ok _ _ => .bad
  | .ex x e => .ex x e
  | .bad => .bad) := id rfl
@[simp] theorem s_sPar3 (i j k : Nat) (r : M (List D)) (e : En) : sPar3 i j k r e = (match r e with
  | .ok [x, y, z] e => .nxt (((e.set i (some (.v x))).set j (some (.v y))).set k (some (.v z)))
  | .ok _ _ => .bad
  | .ex x e => .ex x e
  | .bad => .bad) := id rfl
@[simp] theorem s_sAug (i : Nat) (f : Int → Int → Int) (a : M Vl) (e : En) : sAug i f a e = (match e[i]? with
  | some (some (.v (.int x))) => (match a e with
    | .ok (.v (.int y)) e => .nxt (e.set i (some (.v (.int (f x y)))))
    | .ok _ _ => .bad
    | .ex x e => .ex x e
    | .bad => .bad)
  | _ => .bad) := id rfl
@[simp] theorem s_sAugIx (k : Nat) (f : N) (m : M Vl) (e : En) : sAugIx k f m e = (match e[k]?, f e with
  | some (some (.oo l)), some i => if 0 ≤ i then (match l[i.toNat]? with
    | some r => (match m (e.set k none) with
      | .ok (.o z) e2 => if r.length + z.length ≤ lim then .nxt (e2.set k (some (.oo (l.set i.toNat (r ++ z))))) else .bad
      | .ok _ _ => .bad
      | .ex x e2 => .ex x e2
      | .bad => .bad)
    | none => .bad) else .bad
  | _, _ => .bad) := id rfl
@[simp] theorem s_mAppO (k : Nat) (a : M Vl) (e : En) : mAppO k a e = (match e[k]? with
  | some (some (.oo _)) => (a e).then fun y e => (match y, e[k]? with
    | .o z, some (some (.oo l)) => if l.length < lim then .ok (.v .non) (e.set k (some (.oo (l ++ [z])))) else .bad
    | _, _ => .bad)
  | _ => .bad) := id rfl
@[simp] theorem s_sRaise (c : String) (a : M Vl) (e : En) : sRaise c a e = (match a e with
  | .ok x e => (match x.d with
    | some d => .ex ⟨c, [("code", d)]⟩ e
    | none => .bad)
  | .ex x e => .ex x e
  | .bad => .bad) := id rfl
@[simp] theorem s_sTry (b : C) (cs ns : List String) (i : Nat) (s : Ex → C) (e : En) : sTry b cs ns i s e = (match b e with
  | .ex x e => if cs.contains x.cls then if i < e.length then (match s x (e.set i none) with
    | .nxt e => .nxt (e.set i none)
    | .brk e => .brk (e.set i none)
    | .cnt e => .cnt (e.set i none)
    | .ret y e => .ret y (e.set i none)
    | _ => .bad) else .bad else if ns.contains x.cls then .ex x e else .bad
  | o => o) := id rfl
@[simp] theorem s_eFld (x : Ex) (n : String) (e : En) : eFld x n e = (match x.fs.lookup n with
  | some d => .ok (.v d) e
  | none => .bad) := id rfl
@[simp] theorem s_sFor (it : M (List D)) (g : D → En → Option En) (b : C) (e : En) : sFor it g b e = (match it e with
  | .ok l e => forGo g b l e
  | .ex x e => .ex x e
  | .bad => .bad) := id rfl
@[simp] theorem s_runDef (n : Nat) (lent : List Nat) (b : C) (l : List Vl) : runDef n lent b l = (match b (l.map some ++ List.replicate (n - l.length) none) with
  | .nxt e => (match outs lent e with
    | some os => .ok (.v .non) os
    | none => .bad)
  | .ret x e => (match outs lent e with
    | some os => .ok x os
    | none => .bad)
  | .ex x _ => .ex x
  | _ => .bad) := id rfl
@[simp] theorem s_lift_some {α : Type} (a : α) (e : En) : lift (some a) e = .ok a e := rfl
@[simp] theorem s_lift_none {α : Type} (e : En) : lift (none : Option α) e = .bad := rfl
@[simp] theorem s_args_nil (e : En) : args [] e = .ok [] e := rfl
@[simp] theorem s_args_va (m : M Vl) (r : List Ar) (e : En) : args (.va m :: r) e = (m e).then fun x e => match x.d with
    | some d => (args r e).then fun l e => .ok (.v d :: l) e
    | none => .bad := rfl
@[simp] theorem s_args_lent (i : Nat) (r : List Ar) (e : En) : args (.lent i :: r) e = match e[i]? with
    | some (some _) => (args r e).then fun l e => (match e[i]? with
      | some (some x) => if x.own then .ok (x :: l) e else .bad
      | _ => .bad)
    | _ => .bad := rfl
@[simp] theorem s_puts_nil (e : En) : puts [] [] e = some e := rfl
@[simp] theorem s_puts_va (m : M Vl) (r : List Ar) (l : List Vl) (e : En) : puts (.va m :: r) l e = puts r l e := by cases l <;> rfl
@[simp] theorem s_puts_lent (i : Nat) (r : List Ar) (x : Vl) (l : List Vl) (e : En) : puts (.lent i :: r) (x :: l) e = puts r l (e.set i (some x)) := rfl
@[simp] theorem s_outs_nil (e : En) : outs [] e = some [] := rfl
@[simp] theorem s_outs_cons (i : Nat) (r : List Nat) (e : En) : outs (i :: r) e = match e[i]? with
  | some (some x) => (outs r e).map (x :: ·)
  | _ => none := rfl
@[simp] theorem s_forGo_nil (g : D → En → Option En) (b : C) (e : En) : forGo g b [] e = .nxt e := rfl
@[simp] theorem s_gs_nil (e : En) : gs [] [] e = some e := rfl
@[simp] theorem s_gs_cons (g : D → En → Option En) (r : List (D → En → Option En)) (d : D) (l : List D) (e : En) : gs (g :: r) (d :: l) e = (g d e).bind (gs r l) := rfl
@[simp] theorem s_vd (d : D) : (Vl.v d).d = some d := rfl
@[simp] theorem s_od (l : List D) : (Vl.o l).d = some (.lst l) := rfl
@[simp] theorem s_ood (l : List (List D)) : (Vl.oo l).d = some (.lst (l.map .lst)) := rfl
@[simp] theorem s_oown (l : List D) : (Vl.o l).own = true := rfl
@[simp] theorem s_oflat (l : List D) : (Vl.o l).flat = true := rfl
@[simp] theorem s_vflat (d : D) : (Vl.v d).flat = true := rfl
end Fx
end

section
set_option linter.all false
/-! Py: plain laws about the loops. -/
namespace Fx
theorem compGo1 {k : Nat} {t : M Bool} {x : M Vl} {e : En} (P : D → Bool) (f : D → D) : ∀ (l acc : List D),
    (∀ d ∈ l, t (e.set k (some (.v d))) = .ok (P d) (e.set k (some (.v d)))) → (∀ d ∈ l, P d = true → ∃ y, x (e.set k (some (.v d))) = .ok y (e.set k (some (.v d))) ∧ y.d = some (f d)) →
    compGo [k] (gN k) t x l acc (e.set k none) = .ok (acc ++ (l.filter P).map f) (e.set k none)
  | [], acc, _, _ => by simp [compGo]
  | d :: l, acc, ht, hx => by
    have h1 := ht d (by simp)
    unfold compGo
    simp only [s_gN, List.set_set, h1]
    cases hp : P d with
    | false =>
      simp only [hide, List.set_set]
      rw [compGo1 P f l acc (fun d q => ht d (by simp [q])) (fun d q => hx d (by simp [q]))]
      simp [hp]
    | true =>
      obtain ⟨y, h2, h3⟩ := hx d (by simp) hp
      simp only [h2, h3, hide, List.set_set]
      rw [compGo1 P f l _ (fun d q => ht d (by simp [q])) (fun d q => hx d (by simp [q]))]
      simp [hp]
theorem set_none {e : En} {k : Nat} (h : e[k]? = some none) : e.set k none = e := by
  apply List.ext_getElem?
  intro j
  by_cases hj : k = j
  · subst hj
    rw [List.getElem?_set_self (by rcases Nat.lt_or_ge k e.length with q | q; exact q; rw [List.getElem?_eq_none q] at h; cases h), h]
  · rw [List.getElem?_set_ne hj]
theorem eComp1 {k : Nat} {it : M (List D)} {t : M Bool} {x : M Vl} {e e1 : En} {l : List D} (P : D → Bool) (f : D → D) (hit : it e = .ok l e1) (hl : l.length ≤ lim) (hk : e1[k]? = some none)
    (ht : ∀ d ∈ l, t (e1.set k (some (.v d))) = .ok (P d) (e1.set k (some (.v d)))) (hx : ∀ d ∈ l, P d = true → ∃ y, x (e1.set k (some (.v d))) = .ok y (e1.set k (some (.v d))) ∧ y.d = some (f d)) :
    eComp [k] it (gN k) t x e = .ok (.o ((l.filter P).map f)) e1 := by
  have h := compGo1 (k := k) P f l [] ht hx
  unfold eComp
  simp only [hit, Rs.then, hl, if_true, hide, h, unhide, List.nil_append, hk, List.set_set]
  rw [show keepD (some none) = none from rfl, set_none hk]
theorem eCompA {k : Nat} {it : M (List D)} {x : M Vl} {e e1 : En} {l : List D} (f : D → D) (hit : it e = .ok l e1) (hl : l.length ≤ lim) (hk : e1[k]? = some none)
    (hx : ∀ d ∈ l, ∃ y, x (e1.set k (some (.v d))) = .ok y (e1.set k (some (.v d))) ∧ y.d = some (f d)) :
    eComp [k] it (gN k) tYes x e = .ok (.o (l.map f)) e1 := by
  have h := eComp1 (t := tYes) (fun _ => true) f hit hl hk (fun _ _ => rfl) (fun d q _ => hx d q)
  rw [List.filter_eq_self.mpr (by simp)] at h
  exact h
theorem forGo_nxt {g : D → En → Option En} {b : C} (I : En → Prop) : ∀ (l : List D) (e : En), I e → (∀ d ∈ l, ∀ e, I e → ∃ e1 e2, g d e = some e1 ∧ b e1 = .nxt e2 ∧ I e2) → ∃ e', forGo g b l e = .nxt e' ∧ I e'
  | [], e, hi, _ => ⟨e, rfl, hi⟩
  | d :: l, e, hi, h => by
    obtain ⟨e1, e2, h1, h2, h3⟩ := h d (by simp) e hi
    obtain ⟨e', h4, h5⟩ := forGo_nxt I l e2 h3 fun d q => h d (by simp [q])
    refine ⟨e', ?_, h5⟩
    unfold forGo
    simp only [h1, h2, h4]
theorem bools_map (f : D → Bool) : ∀ l : List D, D.bools (l.map fun d => .bl (f d)) = some (l.map f)
  | [] => rfl
  | a :: l => by simp [D.bools, bools_map f l]
theorem ints_map : ∀ l : List Int, D.ints (l.map .int) = some l
  | [] => rfl
  | a :: l => by simp [D.ints, ints_map l]
def ti (r : List Int) : D := .tup (r.map .int)
def tt (T : List (List Int)) : D := .tup (T.map ti)
@[simp] theorem ti_items (r : List Int) : (ti r).items = some (r.map .int) := rfl
@[simp] theorem tt_items (T : List (List Int)) : (tt T).items = some (T.map ti) := rfl
@[simp] theorem v_items (d : D) : (Vl.v d).items = d.items := rfl
@[simp] theorem o_items (l : List D) : (Vl.o l).items = some l := rfl
@[simp] theorem lst_items (l : List D) : (D.lst l).items = some l := rfl
@[simp] theorem tup_items (l : List D) : (D.tup l).items = some l := rfl
@[simp] theorem ti_isA (r : List Int) : (ti r).isA .tTuple = true := rfl
@[simp] theorem tt_isA (T : List (List Int)) : (tt T).isA .tTuple = true := rfl
@[simp] theorem isA_v (t : Ty) (d : D) : oIsA t (.v d) = some (.v (.bl (d.isA t))) := rfl
@[simp] theorem truth_bl (b : Bool) : (Vl.v (.bl b)).truth = some b := rfl
@[simp] theorem bool_bl (b : Bool) : (Vl.v (.bl b)).bool = some b := rfl
@[simp] theorem len_v (d : D) : oLen (.v d) = d.items.map fun l => .v (.int l.length) := rfl
@[simp] theorem len_o (l : List D) : oLen (.o l) = some (.v (.int l.length)) := rfl
@[simp] theorem int_le (i j : Int) : oLe (.v (.int i)) (.v (.int j)) = some (.v (.bl (decide (i ≤ j)))) := rfl
@[simp] theorem int_lt (i j : Int) : oLt (.v (.int i)) (.v (.int j)) = some (.v (.bl (decide (i < j)))) := rfl
@[simp] theorem int_ge (i j : Int) : oGe (.v (.int i)) (.v (.int j)) = some (.v (.bl (decide (j ≤ i)))) := rfl
@[simp] theorem int_gt (i j : Int) : oGt (.v (.int i)) (.v (.int j)) = some (.v (.bl (decide (j < i)))) := rfl
@[simp] theorem int_add (i j : Int) : oAdd (.v (.int i)) (.v (.int j)) = some (.v (.int (i + j))) := rfl
@[simp] theorem int_sub (i j : Int) : oSub (.v (.int i)) (.v (.int j)) = some (.v (.int (i - j))) := rfl
@[simp] theorem int_eq (i j : Int) : oEq (.v (.int i)) (.v (.int j)) = some (.v (.bl (decide (i = j)))) := rfl
@[simp] theorem int_ne (i j : Int) : oNe (.v (.int i)) (.v (.int j)) = some (.v (.bl (!decide (i = j)))) := rfl
@[simp] theorem not_bl (b : Bool) : oNot (.v (.bl b)) = some (.v (.bl (!b))) := rfl
@[simp] theorem any_o (f : D → Bool) (l : List D) : oAny (.o (l.map fun d => .bl (f d))) = some (.v (.bl ((l.map f).any id))) := by simp [oAny, bools_map]
@[simp] theorem all_o (f : D → Bool) (l : List D) : oAll (.o (l.map fun d => .bl (f d))) = some (.v (.bl ((l.map f).all id))) := by simp [oAll, bools_map]
theorem atD_nat {α : Type} (l : List α) (i : Nat) : atD l (i : Int) = l[i]? := by
  unfold atD ixN
  by_cases h : i < l.length
  · simp [h]
  · simp [h]
theorem rng_mem {lo : Int} {n : Nat} {d : D} (h : d ∈ rng lo n) : ∃ k : Nat, k < n ∧ d = .int (lo + k) := by
  unfold rng at h
  simp only [List.mem_map, List.mem_range] at h
  obtain ⟨k, h1, rfl⟩ := h
  exact ⟨k, h1, rfl⟩
theorem enumD_mem : ∀ (l : List D) (k : Nat) (d : D), d ∈ enumD k l → ∃ i x, l[i]? = some x ∧ d = .tup [.int ((k + i : Nat) : Int), x]
  | [], _, _, h => by simp [enumD] at h
  | a :: l, k, d, h => by
    simp only [enumD, List.mem_cons] at h
    rcases h with rfl | h
    · exact ⟨0, a, rfl, by simp⟩
    · obtain ⟨i, x, h1, h2⟩ := enumD_mem l (k + 1) d h
      exact ⟨i + 1, x, by simpa using h1, by rw [h2]; congr 3; omega⟩
theorem ix_v (d : D) (l : List D) (i : Int) (h : d.items = some l) : oIx (.v d) (.v (.int i)) = (atD l i).map .v := by simp [oIx, h]
@[simp] theorem ix_ti (r : List Int) (i : Nat) : oIx (.v (ti r)) (.v (.int (i : Int))) = (r[i]?).map fun x => .v (.int x) := by
  rw [ix_v _ _ _ (ti_items r), atD_nat, List.getElem?_map]
  cases r[i]? <;> rfl
@[simp] theorem ix_tt (T : List (List Int)) (i : Nat) : oIx (.v (tt T)) (.v (.int (i : Int))) = (T[i]?).map fun x => .v (ti x) := by
  rw [ix_v _ _ _ (tt_items T), atD_nat, List.getElem?_map]
  cases T[i]? <;> rfl
theorem getD_of {α : Type} {l : List α} {i : Nat} {x d : α} (h : l[i]? = some x) : l.getD i d = x := by simp [List.getD, h]
theorem get_of {α : Type} {l : List α} {i : Nat} (h : i < l.length) (d : α) : l[i]? = some (l.getD i d) := by simp [List.getD, List.getElem?_eq_getElem h]
theorem iR1_ok {a : M Vl} {e e' : En} {n : Int} (h : a e = .ok (.v (.int n)) e') (hs : smallI n = true) : iR1 a e = .ok (rng 0 n.toNat) e' := by
  unfold iR1
  rw [h]
  simp only [Rs.then]
  rw [if_pos hs]
theorem small_nat {i : Nat} (h : i ≤ 1000000) : smallI (i : Int) = true := small_le (by omega)
theorem iR1_nat {a : M Vl} {e e' : En} {n : Nat} (h : a e = .ok (.v (.int (n : Int))) e') (hs : n ≤ 1000000) : iR1 a e = .ok (rng 0 n) e' := by
  have := iR1_ok h (small_nat hs)
  rwa [Int.toNat_natCast] at this
theorem rng_len (lo : Int) (n : Nat) : (rng lo n).length = n := by simp [rng]
/-- a comprehension whose items change other names -/
theorem compGoI {k : Nat} {x : M Vl} (I : Nat → List D → En → Prop) : ∀ (l : List D) (i : Nat) (acc : List D) (e : En), I i acc e → (∀ j acc e d, j < i + l.length → I j acc e → d ∈ l → ∃ y z e3, x (e.set k (some (.v d))) = .ok y e3 ∧ y.d = some z ∧ I (j + 1) (acc ++ [z]) (e3.set k none)) →
    ∃ acc' e', compGo [k] (gN k) tYes x l acc e = .ok acc' e' ∧ I (i + l.length) acc' e'
  | [], i, acc, e, hi, _ => ⟨acc, e, by simp [compGo], by simpa using hi⟩
  | d :: l, i, acc, e, hi, h => by
    obtain ⟨y, z, e3, h1, h2, h3⟩ := h i acc e d (by simp) hi (by simp)
    obtain ⟨acc', e', h4, h5⟩ := compGoI I l (i + 1) _ _ h3 fun j acc e d' hj hi' hd => h j acc e d' (by rw [List.length_cons]; omega) hi' (by simp [hd])
    refine ⟨acc', e', ?_, by rw [List.length_cons, show i + (l.length + 1) = i + 1 + l.length by omega]; exact h5⟩
    unfold compGo
    simp only [s_gN, s_tYes, h1, h2, hide]
    exact h4
theorem eCompI {k : Nat} {it : M (List D)} {x : M Vl} {e e1 : En} {l : List D} (I : Nat → List D → En → Prop) (hit : it e = .ok l e1) (hl : l.length ≤ lim) (hk : e1[k]? = some none) (h0 : I 0 [] e1)
    (h : ∀ j acc e d, j < l.length → I j acc e → d ∈ l → ∃ y z e3, x (e.set k (some (.v d))) = .ok y e3 ∧ y.d = some z ∧ I (j + 1) (acc ++ [z]) (e3.set k none)) : ∃ acc e2, eComp [k] it (gN k) tYes x e = .ok (.o acc) (e2.set k none) ∧ I l.length acc e2 := by
  obtain ⟨acc, e2, h1, h2⟩ := compGoI (k := k) (x := x) I l 0 [] e1 h0 (by simpa using h)
  refine ⟨acc, e2, ?_, by simpa using h2⟩
  unfold eComp
  simp only [hit, Rs.then, hl, if_true, hide, set_none hk, h1, unhide, hk]
  rfl
/-- two clauses, nothing but the items' own names changed -/
theorem compGo2P {k1 k2 : Nat} {it1 : M (List D)} {t1 : M Bool} {x : M Vl} {e : En} (L : D → List D) (P : D → D → Bool) (f : D → D → D) (m : Nat)
    (he : ∀ d, hide ((e.set k1 (some (.v d))).set k2 none) [k1, k2] = e) : ∀ (l acc : List D), acc.length + l.length * m ≤ lim →
    (∀ d ∈ l, it1 (e.set k1 (some (.v d))) = .ok (L d) (e.set k1 (some (.v d))) ∧ (L d).length ≤ m) →
    (∀ d ∈ l, ∀ c ∈ L d, t1 ((e.set k1 (some (.v d))).set k2 (some (.v c))) = .ok (P d c) ((e.set k1 (some (.v d))).set k2 (some (.v c)))) →
    (∀ d ∈ l, ∀ c ∈ L d, P d c = true → ∃ y, x ((e.set k1 (some (.v d))).set k2 (some (.v c))) = .ok y ((e.set k1 (some (.v d))).set k2 (some (.v c))) ∧ y.d = some (f d c)) →
    compGo2 [k1, k2] [k2] (gN k1) tYes it1 (gN k2) t1 x l acc e = .ok (acc ++ l.flatMap fun d => ((L d).filter (P d)).map (f d)) e
  | [], acc, _, _, _, _ => by simp [compGo2]
  | d :: l, acc, hb, hi, ht, hx => by
    obtain ⟨h1, h2⟩ := hi d (by simp)
    have hc := compGo1 (k := k2) (e := e.set k1 (some (.v d))) (P d) (f d) (L d) acc (ht d (by simp)) (hx d (by simp))
    rw [List.length_cons, Nat.add_mul, Nat.one_mul] at hb
    have hz : acc.length + (L d).length ≤ lim := by omega
    unfold compGo2
    simp only [s_gN, s_tYes, h1, hz, if_true]
    rw [show hide (e.set k1 (some (.v d))) [k2] = (e.set k1 (some (.v d))).set k2 none from rfl, hc]
    dsimp only
    rw [he d]
    have hl : (((L d).filter (P d)).map (f d)).length ≤ m := by
      rw [List.length_map]
      exact Nat.le_trans (List.length_filter_le _ _) h2
    rw [compGo2P L P f m he l _ (by rw [List.length_append]; omega) (fun d q => hi d (by simp [q])) (fun d q => ht d (by simp [q])) (fun d q => hx d (by simp [q]))]
    simp
theorem eComp2P {k1 k2 : Nat} {it it1 : M (List D)} {t1 : M Bool} {x : M Vl} {e e1 : En} {l : List D} (L : D → List D) (P : D → D → Bool) (f : D → D → D) (m : Nat) (hit : it e = .ok l e1) (hk1 : e1[k1]? = some none) (hk2 : e1[k2]? = some none) (hne : k1 ≠ k2) (hb : l.length * m ≤ lim)
    (hi : ∀ d ∈ l, it1 (e1.set k1 (some (.v d))) = .ok (L d) (e1.set k1 (some (.v d))) ∧ (L d).length ≤ m)
    (ht : ∀ d ∈ l, ∀ c ∈ L d, t1 ((e1.set k1 (some (.v d))).set k2 (some (.v c))) = .ok (P d c) ((e1.set k1 (some (.v d))).set k2 (some (.v c))))
    (hx : ∀ d ∈ l, ∀ c ∈ L d, P d c = true → ∃ y, x ((e1.set k1 (some (.v d))).set k2 (some (.v c))) = .ok y ((e1.set k1 (some (.v d))).set k2 (some (.v c))) ∧ y.d = some (f d c)) :
    eComp2 [k1, k2] [k2] it (gN k1) tYes it1 (gN k2) t1 x e = .ok (.o (l.flatMap fun d => ((L d).filter (P d)).map (f d))) e1 := by
  have he0 : hide e1 [k1, k2] = e1 := by
    show (e1.set k2 none).set k1 none = e1
    rw [set_none hk2, set_none hk1]
  have he : ∀ d, hide ((e1.set k1 (some (.v d))).set k2 none) [k1, k2] = e1 := fun d => by
    show ((((e1.set k1 (some (.v d))).set k2 none).set k2 none).set k1 none) = e1
    rw [List.set_set, List.set_comm _ _ hne, List.set_set, List.set_comm _ _ (Ne.symm hne), set_none hk1, set_none hk2]
  have h := compGo2P (k1 := k1) (k2 := k2) L P f m he l [] (by simpa using hb) hi ht hx
  unfold eComp2
  simp only [hit, Rs.then, he0, h, List.nil_append]
  show Rs.ok _ (((e1.set k2 (keepD e1[k2]?))).set k1 (keepD e1[k1]?)) = _
  rw [hk1, hk2, show keepD (some none) = none from rfl, set_none hk2, set_none hk1]
end Fx
end

section
set_option linter.all false
set_option maxRecDepth 10000
/-! Qa: the helpers that all laws share. LAW_D is written by gen.py. -/
namespace Fx
/-- the script's reader -/
structure Rd where
  cells : List Int
  i : Nat
  cur : Int
  seed : Int
def Rd.v (s : Rd) : Vl := .o [.lst (s.cells.map .int), .int s.i, .int s.cur, .int s.seed]
theorem divOk_of {m : Int} (h : 0 < m) (h2 : m ≤ 1000000) : divOk m = true := by
  unfold divOk
  have : m.natAbs < 2 ^ 20 := by omega
  have h3 : m.natAbs.log2 < 20 := (Nat.log2_lt (by omega)).mpr this
  simp
  omega
theorem take_spec (s : Rd) (m : Int) (h : 0 < m) (h2 : m ≤ 1000000) : ∃ r s', 0 ≤ r ∧ r < m ∧ G.F__law_take [s.v, .v (.int m)] = .ok (.v (.int r)) [Rd.v s'] := by
  obtain ⟨cells, i, cur, seed⟩ := s
  have hm0 : m ≠ 0 := by omega
  have md : ∀ z : Int, 0 ≤ z % m ∧ z % m < m := fun z => ⟨Int.emod_nonneg z hm0, Int.emod_lt_of_pos z h⟩
  have hd := divOk_of h h2
  have d5 : divOk 5 = true := by decide
  have mk : ∀ z : Int, mulOk z 69621 = true := fun z => by unfold mulOk; simp
  unfold G.F__law_take G.c__law_take
  by_cases hc : cur = 0
  · subst hc
    by_cases hi : i < cells.length
    · by_cases hs : (if cells[i] < 0 then -cells[i] else cells[i]) < 1000000000000000000
      · refine ⟨(if cells[i] < 0 then -cells[i] else cells[i]) % m, ⟨cells, i + 1, 0, seed⟩, (md _).1, (md _).2, ?_⟩
        simp [Rd.v, oIx, Vl.items, D.items, atD_nat, atD, ixN, oEq, oLt, oGt, oMod, oDiv, oAdd, oMul, oPow, oInt, oAbs, oLen, Vl.eq, D.eq, D.dep, Vl.bool, h, hd, hi, hs]
      · have hp : 0 < (if cells[i] < 0 then -cells[i] else cells[i]) := by omega
        refine ⟨(if cells[i] < 0 then -cells[i] else cells[i]) % m, ⟨cells, i + 1, (if cells[i] < 0 then -cells[i] else cells[i]) / m, seed⟩, (md _).1, (md _).2, ?_⟩
        simp [Rd.v, oIx, Vl.items, D.items, atD_nat, atD, ixN, oEq, oLt, oGt, oMod, oDiv, oAdd, oMul, oPow, oInt, oAbs, oLen, Vl.eq, D.eq, D.dep, Vl.bool, h, hd, hi, hs, hp]
    · refine ⟨(seed * 69621 + 7) % 2147483647 / 5 % m, ⟨cells, i, 0, (seed * 69621 + 7) % 2147483647⟩, (md _).1, (md _).2, ?_⟩
      simp [Rd.v, oIx, Vl.items, D.items, atD_nat, atD, ixN, oEq, oLt, oGt, oMod, oDiv, oAdd, oMul, oPow, oInt, oAbs, oLen, Vl.eq, D.eq, D.dep, Vl.bool, h, hd, hi, d5, mk]
  · by_cases hp : 0 < cur
    · refine ⟨cur % m, ⟨cells, i, cur / m, seed⟩, (md _).1, (md _).2, ?_⟩
      simp [Rd.v, oIx, Vl.items, D.items, atD_nat, atD, ixN, oEq, oLt, oGt, oMod, oDiv, oAdd, oMul, oPow, oInt, oAbs, oLen, Vl.eq, D.eq, D.dep, Vl.bool, h, hd, hc, hp]
    · refine ⟨(seed * 69621 + 7) % 2147483647 / 5 % m, ⟨cells, i, cur, (seed * 69621 + 7) % 2147483647⟩, (md _).1, (md _).2, ?_⟩
      simp [Rd.v, oIx, Vl.items, D.items, atD_nat, atD, ixN, oEq, oLt, oGt, oMod, oDiv, oAdd, oMul, oPow, oInt, oAbs, oLen, Vl.eq, D.eq, D.dep, Vl.bool, h, hd, hc, hp, d5, mk]
theorem begin_spec (ns : List Int) : ∃ seed, G.F__law_begin [.v (.lst (ns.map .int))] = .ok (Rd.v ⟨ns, 0, 0, seed⟩) [] := by
  have mk : ∀ z : Int, mulOk z 48271 = true := fun z => by unfold mulOk; simp
  have loop : ∀ (l : List Int) (x : Vl) (seed : Int) (c : Option Vl), ∃ seed' c', forGo (gN 2) (sSet 1 (e2 oMod (e2 oAdd (e2 oAdd (e2 oMul (eV 1) (eC (.int 48271))) (e2 oMod (e1 oInt (eP 2)) (eC (.int 2147483629)))) (eC (.int 11))) (eC (.int 2147483647)))) (l.map .int) [some x, some (.v (.int seed)), c] = .nxt [some x, some (.v (.int seed')), c'] := by
    intro l
    induction l with
    | nil => intro x seed c; exact ⟨seed, c, rfl⟩
    | cons a l ih =>
      intro x seed c
      obtain ⟨s', c', h⟩ := ih x ((seed * 48271 + a % 2147483629 + 11) % 2147483647) (some (.v (.int a)))
      refine ⟨s', c', ?_⟩
      rw [← h, List.map_cons]
      conv => lhs; unfold forGo
      simp [oMod, oAdd, oMul, oInt, mk]
  obtain ⟨s', c', h⟩ := loop ns (.v (.lst (ns.map .int))) 5 none
  refine ⟨s', ?_⟩
  unfold G.F__law_begin G.c__law_begin
  simp [Vl.items, D.items, h, oList, Rd.v]
theorem is_integer_ok (d : D) : G.F_is_integer [.v d] = .ok (.v (.bl (d.isA .tInt && !d.isA .tBool))) [] := by
  unfold G.F_is_integer G.c_is_integer
  cases h : d.isA .tInt <;> simp [h]
theorem is_integer_int (i : Int) : G.F_is_integer [.v (.int i)] = .ok (.v (.bl true)) [] := is_integer_ok _
/-- entries by places -/
def at2 (T : List (List Int)) (i j : Nat) : Int := (T.getD i []).getD j 0
structure IsTab (T : List (List Int)) : Prop where
  n1 : 1 ≤ T.length
  n8 : T.length ≤ 8
  sq : ∀ r ∈ T, r.length = T.length
  rg : ∀ r ∈ T, ∀ x ∈ r, 0 ≤ x ∧ x ≤ 1000
  dg : ∀ i, i < T.length → at2 T i i = 0
  sy : ∀ i j, i < T.length → j < T.length → at2 T i j = at2 T j i
theorem check_table_ok {T : List (List Int)} (h : IsTab T) : G.F_check_table [.v (tt T)] = .ok (.v .non) [] := by
  unfold G.F_check_table G.c_check_table
  have hn1 := h.n1
  have hn8 := h.n8
  have loop1 : ∀ (r0 a0 : Option Vl), ∃ e', forGo (gN 1) (sSeq (sIf (tOr (tNot (tT (e1 (oIsA .tTuple) (eP 1)))) (tB (e2 oNe (e1 oLen (eP 1)) (e1 oLen (eP 0))))) (sRaise "TableError" (eC (.str "row"))) sNil)
  (sIf (tT (e1 oAny (eComp [3] (iL (eV 1)) (gN 3) tYes (eOr (e1 oNot (eCall G.F_is_integer [.va (eV 3)])) (e1 oNot (eChain oLe oLe (eC (.int 0)) (eV 3) (eC (.int 1000)))))))) (sRaise "TableError" (eC (.str "row"))) sNil)) (T.map ti) [some (.v (tt T)), r0, a0, none, none] = .nxt e' ∧ ∃ r a, e' = [some (.v (tt T)), r, a, none, none] := by
    intro r0 a0
    refine forGo_nxt (fun e => ∃ r a, e = [some (.v (tt T)), r, a, none, none]) _ _ ⟨r0, a0, rfl⟩ ?_
    rintro d hd e ⟨r, a, rfl⟩
    obtain ⟨row, hr, rfl⟩ := List.mem_map.mp hd
    have hl := h.sq row hr
    refine ⟨[some (.v (tt T)), some (.v (ti row)), a, none, none], [some (.v (tt T)), some (.v (ti row)), a, none, none], rfl, ?_, _, _, rfl⟩
    have hc := eCompA (k := 3) (it := iL (eV 1)) (x := eOr (e1 oNot (eCall G.F_is_integer [.va (eV 3)])) (e1 oNot (eChain oLe oLe (eC (.int 0)) (eV 3) (eC (.int 1000))))) (e := [some (.v (tt T)), some (.v (ti row)), a, none, none]) (e1 := [some (.v (tt T)), some (.v (ti row)), a, none, none]) (l := row.map .int) (fun _ => .bl false)
      (by simp) (by simp [hl, lim]; omega) rfl (fun d hd => by
        obtain ⟨x, hx, rfl⟩ := List.mem_map.mp hd
        have := h.rg row hr x hx
        simp [is_integer_int, this.1, this.2])
    simp [hl, hc, -List.map_map]
  have loop2 : ∀ (r0 a0 : Option Vl), ∃ e', forGo (gT [(gN 2), (gN 1)]) (sIf (tOr (tB (e2 oNe (eIxP 1 (eV 2)) (eC (.int 0)))) (tT (e1 oAny (eComp [4] (iR1 (eV 2)) (gN 4) tYes (e2 oNe (eIxP 1 (eV 4)) (e2 oIx (eIxP 0 (eV 4)) (eV 2))))))) (sRaise "TableError" (eC (.str "even"))) sNil) (enumD 0 (T.map ti)) [some (.v (tt T)), r0, a0, none, none] = .nxt e' ∧ ∃ r a, e' = [some (.v (tt T)), r, a, none, none] := by
    intro r0 a0
    refine forGo_nxt (fun e => ∃ r a, e = [some (.v (tt T)), r, a, none, none]) _ _ ⟨r0, a0, rfl⟩ ?_
    rintro d hd e ⟨r, a, rfl⟩
    obtain ⟨i, x, h1, rfl⟩ := enumD_mem _ _ _ hd
    rw [List.getElem?_map] at h1
    obtain ⟨row, hr, rfl⟩ := Option.map_eq_some_iff.mp h1
    have hi : i < T.length := by
      rcases Nat.lt_or_ge i T.length with q | q
      · exact q
      · rw [List.getElem?_eq_none q] at hr; cases hr
    have hrow : T.getD i [] = row := getD_of hr
    have hl : row.length = T.length := h.sq row (List.mem_of_getElem? hr)
    have hd0 : row[i]? = some 0 := by
      rw [get_of (by omega) 0]
      have := h.dg i hi
      unfold at2 at this
      rw [hrow] at this
      rw [this]
    refine ⟨[some (.v (tt T)), some (.v (ti row)), some (.v (.int (i : Int))), none, none], [some (.v (tt T)), some (.v (ti row)), some (.v (.int (i : Int))), none, none], by simp, ?_, _, _, rfl⟩
    have hc := eCompA (k := 4) (it := iR1 (eV 2)) (x := e2 oNe (eIxP 1 (eV 4)) (e2 oIx (eIxP 0 (eV 4)) (eV 2))) (e := [some (.v (tt T)), some (.v (ti row)), some (.v (.int (i : Int))), none, none]) (e1 := [some (.v (tt T)), some (.v (ti row)), some (.v (.int (i : Int))), none, none]) (l := rng 0 i) (fun _ => .bl false)
      (iR1_nat (by simp) (by omega)) (by rw [rng_len]; unfold lim; omega) rfl (fun d hd => by
        obtain ⟨j, hj, rfl⟩ := rng_mem hd
        have e1 : row[j]? = some (at2 T i j) := by rw [get_of (by omega) 0]; unfold at2; rw [hrow]
        obtain ⟨rj, e2⟩ : ∃ rj, T[j]? = some rj := ⟨_, get_of (by omega) []⟩
        have e3 : rj[i]? = some (at2 T j i) := by
          have : rj.length = T.length := h.sq _ (List.mem_of_getElem? e2)
          rw [get_of (by omega) 0]; unfold at2; rw [getD_of e2]
        have e4 := h.sy i j hi (by omega)
        exact ⟨.v (.bl false), by simp [e1, e2, e3, e4], rfl⟩)
    generalize eComp [4] (iR1 (eV 2)) (gN 4) tYes (e2 oNe (eIxP 1 (eV 4)) (e2 oIx (eIxP 0 (eV 4)) (eV 2))) = Y at hc ⊢
    simp [hd0, hc, -List.map_map]
  obtain ⟨e1, h1, r1, a1, rfl⟩ := loop1 none none
  obtain ⟨e2, h2, r2, a2, rfl⟩ := loop2 r1 a1
  have c1 : (1 : Int) ≤ T.length := by omega
  have c2 : (T.length : Int) ≤ 8 := by omega
  simp [h1, h2, c1, c2]
end Fx
end

section
set_option linter.all false
set_option maxRecDepth 10000
namespace Fx
/-- a row of places -/
def oi (o : List Nat) : D := .tup (o.map fun (k : Nat) => D.int (k : Int))
@[simp] theorem oi_items (o : List Nat) : (oi o).items = some (o.map fun (k : Nat) => D.int (k : Int)) := rfl
@[simp] theorem oi_isA (o : List Nat) : (oi o).isA .tTuple = true := rfl
@[simp] theorem tuple_o (l : List D) : oTuple (.o l) = some (.v (.tup l)) := rfl
@[simp] theorem tuple_v (d : D) : oTuple (.v d) = d.items.map fun l => .v (.tup l) := rfl
def mv (T : List (List Int)) (o : List Nat) : List (List Int) := o.map fun i => o.map fun j => at2 T i j
/-- the number of a whole number -/
def D.nat : D → Nat
  | .int i => i.toNat
  | _ => 0
@[simp] theorem rdv_own (s : Rd) : s.v.own = true := rfl
theorem pick_spec (s : Rd) (menu : D) (l : List D) (hm : menu.items = some l) (h0 : 0 < l.length) (h1 : l.length ≤ 1000000) : ∃ d s', d ∈ l ∧ G.F__law_pick [s.v, .v menu] = .ok (.v d) [Rd.v s'] := by
  obtain ⟨r, s', r0, r1, h⟩ := take_spec s (l.length : Int) (by omega) (by omega)
  obtain ⟨k, rfl⟩ : ∃ k : Nat, r = k := ⟨r.toNat, by omega⟩
  have hk : k < l.length := by omega
  refine ⟨l[k], s', List.getElem_mem hk, ?_⟩
  have hx : oIx (.v menu) (.v (.int (k : Int))) = some (.v l[k]) := by
    rw [ix_v _ _ _ hm, atD_nat, List.getElem?_eq_getElem hk]
    rfl
  unfold G.F__law_pick G.c__law_pick
  simp [hm, h, hx]
end Fx
end

section
set_option linter.all false
set_option maxRecDepth 10000
namespace Fx
theorem compGoO1 {k : Nat} {x : M Vl} {e : En} (f : D → List D) : ∀ (l : List D) (acc : List (List D)),
    (∀ d ∈ l, x (e.set k (some (.v d))) = .ok (.o (f d)) (e.set k (some (.v d)))) → compGoO [k] (gN k) tYes x l acc (e.set k none) = .ok (acc ++ l.map f) (e.set k none)
  | [], acc, _ => by simp [compGoO]
  | d :: l, acc, hx => by
    have h1 := hx d (by simp)
    unfold compGoO
    simp only [s_gN, s_tYes, List.set_set, h1, hide]
    rw [compGoO1 f l _ fun d q => hx d (by simp [q])]
    simp
theorem eCompO1 {k : Nat} {it : M (List D)} {x : M Vl} {e e1 : En} {l : List D} (f : D → List D) (hit : it e = .ok l e1) (hl : l.length ≤ lim) (hk : e1[k]? = some none) (hx : ∀ d ∈ l, x (e1.set k (some (.v d))) = .ok (.o (f d)) (e1.set k (some (.v d)))) :
    eCompO [k] it (gN k) tYes x e = .ok (.oo (l.map f)) e1 := by
  have h := compGoO1 (k := k) (e := e1) f l [] hx
  unfold eCompO
  simp only [hit, Rs.then, hl, if_true, hide, h, unhide, List.nil_append, hk, List.set_set]
  rw [show keepD (some none) = none from rfl, set_none hk]
/-- a square of numbers, as it is made -/
structure Sq (n : Nat) (T : List (List Int)) : Prop where
  len : T.length = n
  row : ∀ i, i < n → (T.getD i []).length = n
def set2 (T : List (List Int)) (i j : Nat) (v : Int) : List (List Int) := T.set i ((T.getD i []).set j v)
theorem getD_set {α : Type} (l : List α) (i j : Nat) (v d : α) : (l.set i v).getD j d = if i = j ∧ j < l.length then v else l.getD j d := by
  unfold List.getD
  by_cases h : i = j
  · subst h
    by_cases h2 : i < l.length
    · simp [h2]
    · simp [h2]
  · simp [List.getElem?_set_ne h, h]
theorem at_set2 {n : Nat} {T : List (List Int)} (h : Sq n T) {i j : Nat} (hi : i < n) (hj : j < n) (v : Int) (a b : Nat) : at2 (set2 T i j v) a b = if a = i ∧ b = j then v else at2 T a b := by
  unfold at2 set2
  have hl := h.len
  have hr := h.row i hi
  rw [getD_set]
  by_cases ha : i = a
  · subst ha
    rw [if_pos ⟨rfl, by omega⟩, getD_set]
    by_cases hb : j = b
    · subst hb; rw [if_pos ⟨rfl, by omega⟩, if_pos ⟨rfl, rfl⟩]
    · rw [if_neg (fun z => hb z.1), if_neg (fun z => hb z.2.symm)]
  · rw [if_neg (fun z => ha z.1), if_neg (fun z => ha z.1.symm)]
theorem sq_set2 {n : Nat} {T : List (List Int)} (h : Sq n T) (i j : Nat) (v : Int) : Sq n (set2 T i j v) := by
  refine ⟨by unfold set2; rw [List.length_set]; exact h.len, fun a ha => ?_⟩
  unfold set2
  rw [getD_set]
  split
  · rw [List.length_set]
    rename_i q
    rw [q.1]
    exact h.row a ha
  · exact h.row a ha
/-- a table as it grows -/
structure TabI (n : Nat) (top : Int) (T : List (List Int)) : Prop where
  sq : Sq n T
  sy : ∀ a b, a < n → b < n → at2 T a b = at2 T b a
  rg : ∀ a b, a < n → b < n → 0 ≤ at2 T a b ∧ at2 T a b ≤ top
  dg : ∀ a, a < n → at2 T a a = 0
theorem tab_step {n : Nat} {top : Int} {T : List (List Int)} (h : TabI n top T) {i j : Nat} (hi : i < n) (hj : j < i) {v : Int} (h0 : 0 ≤ v) (h1 : v ≤ top) : TabI n top (set2 (set2 T i j v) j i v) := by
  have s1 := sq_set2 h.sq i j v
  have key : ∀ a b, at2 (set2 (set2 T i j v) j i v) a b = if (a = j ∧ b = i) ∨ (a = i ∧ b = j) then v else at2 T a b := fun a b => by
    rw [at_set2 s1 (by omega) hi, at_set2 h.sq hi (by omega)]
    by_cases q1 : a = j ∧ b = i
    · simp [q1]
    · by_cases q2 : a = i ∧ b = j
      · simp [q2]
      · simp [q1, q2]
  refine ⟨sq_set2 s1 j i v, fun a b ha hb => ?_, fun a b ha hb => ?_, fun a ha => ?_⟩
  · rw [key, key]
    by_cases q : (a = j ∧ b = i) ∨ (a = i ∧ b = j)
    · rw [if_pos q, if_pos (by omega)]
    · rw [if_neg q, if_neg (by omega)]; exact h.sy a b ha hb
  · rw [key]
    split
    · exact ⟨h0, h1⟩
    · exact h.rg a b ha hb
  · rw [key, if_neg (by omega)]; exact h.dg a ha
theorem TabI.tab {n : Nat} {top : Int} {T : List (List Int)} (h : TabI n top T) (h1 : 1 ≤ n) (h8 : n ≤ 8) (ht : top ≤ 1000) : IsTab T := by
  have hl := h.sq.len
  have row : ∀ r ∈ T, ∃ i, i < n ∧ T.getD i [] = r := fun r hr => by
    obtain ⟨i, hi, rfl⟩ := List.getElem_of_mem hr
    exact ⟨i, by omega, getD_of (List.getElem?_eq_getElem hi)⟩
  refine ⟨by omega, by omega, fun r hr => ?_, fun r hr x hx => ?_, fun i hi => h.dg i (by omega), fun i j hi hj => h.sy i j (by omega) (by omega)⟩
  · obtain ⟨i, hi, rfl⟩ := row r hr
    rw [hl]; exact h.sq.row i hi
  · obtain ⟨i, hi, rfl⟩ := row r hr
    obtain ⟨j, hj, rfl⟩ := List.getElem_of_mem hx
    have hj' : j < n := by rw [← h.sq.row i hi]; exact hj
    have := h.rg i j hi hj'
    unfold at2 at this
    rw [getD_of (List.getElem?_eq_getElem hj)] at this
    omega
theorem TabI.mono {n : Nat} {a b : Int} {T : List (List Int)} (h : TabI n a T) (hab : a ≤ b) : TabI n b T := ⟨h.sq, h.sy, fun i j hi hj => ⟨(h.rg i j hi hj).1, by have := (h.rg i j hi hj).2; omega⟩, h.dg⟩
theorem TabI.sqr {n : Nat} {a : Int} {T : List (List Int)} (h : TabI n a T) : ∀ r ∈ T, r.length = n := fun r hr => by
  obtain ⟨i, hi, rfl⟩ := List.getElem_of_mem hr
  have h2 := h.sq.len
  have := h.sq.row i (by omega)
  rwa [getD_of (List.getElem?_eq_getElem hi)] at this
theorem tab_step2 {n : Nat} {top : Int} {T : List (List Int)} (h : TabI n top T) {i j : Nat} (hi : i < n) (hj : j < n) {v : Int} (h0 : 0 ≤ v) (h1 : v ≤ top) (hd : i = j → v = 0) : TabI n top (set2 (set2 T i j v) j i v) := by
  have s1 := sq_set2 h.sq i j v
  have key : ∀ a b, at2 (set2 (set2 T i j v) j i v) a b = if (a = j ∧ b = i) ∨ (a = i ∧ b = j) then v else at2 T a b := fun a b => by
    rw [at_set2 s1 (by omega) hi, at_set2 h.sq hi (by omega)]
    by_cases q1 : a = j ∧ b = i
    · simp [q1]
    · by_cases q2 : a = i ∧ b = j
      · simp [q2]
      · simp [q1, q2]
  refine ⟨sq_set2 s1 j i v, fun a b ha hb => ?_, fun a b ha hb => ?_, fun a ha => ?_⟩
  · rw [key, key]
    by_cases q : (a = j ∧ b = i) ∨ (a = i ∧ b = j)
    · rw [if_pos q, if_pos (by omega)]
    · rw [if_neg q, if_neg (by omega)]; exact h.sy a b ha hb
  · rw [key]
    split
    · exact ⟨h0, h1⟩
    · exact h.rg a b ha hb
  · rw [key]
    split
    · exact hd (by omega)
    · exact h.dg a ha
theorem seq_nxt {a b : C} {e e' : En} (h : a e = .nxt e') : sSeq a b e = b e' := by
  unfold sSeq
  rw [h]
theorem run_of {n : Nat} {lent : List Nat} {b : C} {l : List Vl} {x : Vl} {e : En} {os : List Vl} (h : b (l.map some ++ List.replicate (n - l.length) none) = .ret x e) (ho : outs lent e = some os) : runDef n lent b l = .ok x os := by
  unfold runDef
  rw [h]
  simp only [ho]
end Fx
end

section
set_option linter.all false
set_option maxRecDepth 10000
namespace Fx
theorem in_oi (t : Nat) (row : List Nat) : inD (.int (t : Int)) (row.map fun (k : Nat) => D.int (k : Int)) = row.contains t := by
  unfold inD
  induction row with
  | nil => rfl
  | cons a r ih =>
    simp only [List.map_cons, List.any_cons, ih, List.contains_cons]
    congr 1
    simp only [D.eq]
    by_cases h : t = a
    · simp [h]
    · have : ¬ ((a : Int) = (t : Int)) := by omega
      simp [this, h]
@[simp] theorem notin_oi (t : Nat) (row : List Nat) : oNotIn (.v (.int (t : Int))) (.v (oi row)) = some (.v (.bl (!row.contains t))) := by
  unfold oNotIn
  simp [D.dep, in_oi]
@[simp] theorem in_oi' (t : Nat) (row : List Nat) : oIn (.v (.int (t : Int))) (.v (oi row)) = some (.v (.bl (row.contains t))) := by
  unfold oIn
  simp [D.dep, in_oi]
@[simp] theorem ix_oi (row : List Nat) (i : Nat) : oIx (.v (oi row)) (.v (.int (i : Int))) = (row[i]?).map fun x => .v (.int (x : Int)) := by
  rw [ix_v _ _ _ (oi_items row), atD_nat, List.getElem?_map]
  cases row[i]? <;> rfl
theorem add_oi (row : List Nat) (t : Nat) (h : row.length ≤ 1000) : oAdd (.v (oi row)) (.v (.tup [.int (t : Int)])) = some (.v (oi (row ++ [t]))) := by
  unfold oi oAdd
  dsimp only
  rw [if_pos (by simp [lim]; omega)]
  simp
def D.row : D → List Nat
  | .tup l => l.map D.nat
  | _ => []
@[simp] theorem row_oi (row : List Nat) : (oi row).row = row := by simp [oi, D.row, D.nat, Function.comp_def]
theorem any_rng (f : Nat → Bool) (k : Nat) : (((rng 0 k).map fun d => f d.nat).any id) = (List.range k).any f := by
  simp [rng, List.any_map, Function.comp_def, D.nat]
theorem at_ok {T : List (List Int)} (sq : ∀ r ∈ T, r.length = T.length) {i j : Nat} (hi : i < T.length) (hj : j < T.length) : ∃ r, T[i]? = some r ∧ r[j]? = some (at2 T i j) := by
  obtain ⟨r, h⟩ : ∃ r, T[i]? = some r := ⟨_, get_of hi []⟩
  have : r.length = T.length := sq _ (List.mem_of_getElem? h)
  exact ⟨r, h, by rw [get_of (by omega) 0]; unfold at2; rw [getD_of h]⟩
theorem rng_filter (P : Nat → Bool) (n : Nat) : (rng 0 n).filter (fun c => P c.nat) = ((List.range n).filter P).map fun (t : Nat) => D.int (t : Int) := by
  have : rng 0 n = (List.range n).map fun (t : Nat) => D.int (t : Int) := by simp [rng]
  rw [this, List.filter_map]
  rfl
theorem forGoR {g : D → En → Option En} {b : C} (I : Nat → En → Prop) (n : Nat) : ∀ (m k : Nat) (e : En), k + m = n → I k e → (∀ j e, j < n → I j e → ∃ e1 e2, g (.int (j : Int)) e = some e1 ∧ b e1 = .nxt e2 ∧ I (j + 1) e2) → ∃ e', forGo g b ((List.range' k m).map fun (t : Nat) => D.int (t : Int)) e = .nxt e' ∧ I n e'
  | 0, k, e, hk, hi, _ => ⟨e, rfl, by rw [← hk]; exact hi⟩
  | m + 1, k, e, hk, hi, h => by
    obtain ⟨e1, e2, h1, h2, h3⟩ := h k e (by omega) hi
    obtain ⟨e', h4, h5⟩ := forGoR I n m (k + 1) e2 (by omega) h3 h
    refine ⟨e', ?_, h5⟩
    rw [List.range'_succ, List.map_cons]
    conv => lhs; unfold forGo
    simp only [h1, h2]
    exact h4
theorem rng_range' (n : Nat) : rng 0 n = (List.range' 0 n).map fun (t : Nat) => D.int (t : Int) := by
  rw [← List.range_eq_range']
  simp [rng]
theorem forGoL {α : Type} {g : D → En → Option En} {b : C} (h : α → D) (I : List α → En → Prop) (N : Nat) : ∀ (l pre : List α) (e : En), pre.length + l.length = N → I pre e → (∀ pre a e, a ∈ l → pre.length < N → I pre e → ∃ e1 e2, g (h a) e = some e1 ∧ b e1 = .nxt e2 ∧ I (pre ++ [a]) e2) → ∃ e', forGo g b (l.map h) e = .nxt e' ∧ I (pre ++ l) e'
  | [], pre, e, _, hi, _ => ⟨e, rfl, by simpa using hi⟩
  | a :: l, pre, e, hN, hi, hh => by
    obtain ⟨e1, e2, h1, h2, h3⟩ := hh pre a e (by simp) (by rw [List.length_cons] at hN; omega) hi
    obtain ⟨e', h4, h5⟩ := forGoL h I N l (pre ++ [a]) e2 (by rw [List.length_append, List.length_singleton]; rw [List.length_cons] at hN; omega) h3 fun pre a e ha hp hi => hh pre a e (by simp [ha]) hp hi
    refine ⟨e', ?_, by simpa using h5⟩
    rw [List.map_cons]
    conv => lhs; unfold forGo
    simp only [h1, h2]
    exact h4
end Fx
end

section
set_option linter.all false
set_option maxRecDepth 10000
namespace Fx
theorem eqs_map {α : Type} [DecidableEq α] (h : α → D) (hh : ∀ a b, D.eq (h a) (h b) = decide (a = b)) : ∀ r s : List α, D.eqs (r.map h) (s.map h) = decide (r = s)
  | [], [] => by simp [D.eqs]
  | [], _ :: _ => by simp [D.eqs]
  | _ :: _, [] => by simp [D.eqs]
  | a :: r, b :: s => by
    simp only [List.map_cons, D.eqs, hh, eqs_map h hh r s]
    by_cases h1 : a = b <;> by_cases h2 : r = s <;> simp [h1, h2]
theorem eq_ti (r s : List Int) : D.eq (ti r) (ti s) = decide (r = s) := by
  unfold ti
  simp only [D.eq]
  exact eqs_map _ (fun a b => by simp [D.eq]) r s
theorem eq_tt (A B : List (List Int)) : D.eq (tt A) (tt B) = decide (A = B) := by
  unfold tt
  simp only [D.eq]
  exact eqs_map _ eq_ti A B
theorem eq_oi (r s : List Nat) : D.eq (oi r) (oi s) = decide (r = s) := by
  unfold oi
  simp only [D.eq]
  exact eqs_map _ (fun a b => by
    simp only [D.eq]
    by_cases h : a = b
    · simp [h]
    · have : ¬ (a : Int) = (b : Int) := by omega
      simp [h, this]) r s
theorem dep_ints (r : List Int) : D.deps (r.map .int) = 0 := by
  induction r with
  | nil => rfl
  | cons a r ih => simp [D.deps, D.dep, ih]
theorem dep_ti (r : List Int) : (ti r).dep = 1 := by unfold ti; simp [D.dep, dep_ints]
theorem dep_tt (A : List (List Int)) : (tt A).dep ≤ 2 := by
  unfold tt
  have : D.deps (A.map ti) ≤ 1 := by
    induction A with
    | nil => simp [D.deps]
    | cons a A ih => simp only [List.map_cons, D.deps, dep_ti]; omega
  simp only [D.dep]
  omega
theorem dep_oi (r : List Nat) : (oi r).dep = 1 := by
  unfold oi
  have : D.deps (r.map fun (k : Nat) => D.int (k : Int)) = 0 := by
    induction r with
    | nil => rfl
    | cons a r ih => simp [D.deps, D.dep, ih]
  simp [D.dep, this]
@[simp] theorem oEq_tt (A B : List (List Int)) : oEq (.v (tt A)) (.v (tt B)) = some (.v (.bl (decide (A = B)))) := by
  have := dep_tt A
  unfold oEq Vl.eq
  simp only [s_vd]
  rw [if_pos (by omega), eq_tt]
  rfl
@[simp] theorem oNe_tt (A B : List (List Int)) : oNe (.v (tt A)) (.v (tt B)) = some (.v (.bl (!decide (A = B)))) := by
  have := dep_tt A
  unfold oNe Vl.eq
  simp only [s_vd]
  rw [if_pos (by omega), eq_tt]
  rfl
theorem oEq_sm (x y : D) (h : y.dep ≤ 64) : oEq (.v x) (.v y) = some (.v (.bl (D.eq x y))) := by
  unfold oEq Vl.eq
  simp only [s_vd]
  rw [if_pos (by omega)]
  rfl
theorem oNe_sm (x y : D) (h : y.dep ≤ 64) : oNe (.v x) (.v y) = some (.v (.bl (!D.eq x y))) := by
  unfold oNe Vl.eq
  simp only [s_vd]
  rw [if_pos (by omega)]
  rfl
@[simp] theorem oEq_str (x : D) (s : String) : oEq (.v x) (.v (.str s)) = some (.v (.bl (D.eq x (.str s)))) := oEq_sm _ _ (by simp [D.dep])
@[simp] theorem oNe_str (x : D) (s : String) : oNe (.v x) (.v (.str s)) = some (.v (.bl (!D.eq x (.str s)))) := oNe_sm _ _ (by simp [D.dep])
@[simp] theorem oEq_str1 (x : D) (s : String) : oEq (.v x) (.v (.tup [.str s])) = some (.v (.bl (D.eq x (.tup [.str s])))) := oEq_sm _ _ (by simp [D.dep, D.deps])
@[simp] theorem oNe_str1 (x : D) (s : String) : oNe (.v x) (.v (.tup [.str s])) = some (.v (.bl (!D.eq x (.tup [.str s])))) := oNe_sm _ _ (by simp [D.dep, D.deps])
/-- whether it is that word -/
def isStr (s : String) : D → Bool
  | .str t => decide (t = s)
  | _ => false
theorem eq_str (x : D) (s : String) : D.eq x (.str s) = isStr s x := by cases x <;> simp [D.eq, isStr]
def isStr1 (s : String) : D → Bool
  | .tup [a] => isStr s a
  | _ => false
theorem eq_str1 (x : D) (s : String) : D.eq x (.tup [.str s]) = isStr1 s x := by
  cases x with
  | tup l => match l with
    | [] => simp [D.eq, D.eqs, isStr1]
    | [a] => simp [D.eq, D.eqs, isStr1, eq_str]
    | a :: b :: r => simp [D.eq, D.eqs, isStr1]
  | _ => simp [D.eq, isStr1]
def isI : D → Bool
  | .int _ => true
  | _ => false
def D.iv : D → Int
  | .int i => i
  | _ => 0
theorem isI_isA (d : D) : (d.isA .tInt && !d.isA .tBool) = isI d := by cases d <;> rfl
theorem ints_of : ∀ (l : List D), l.all isI = true → D.ints l = some (l.map D.iv)
  | [], _ => rfl
  | a :: l, h => by
    simp only [List.all_cons, Bool.and_eq_true] at h
    obtain ⟨h1, h2⟩ := h
    cases a with
    | int i => simp [D.ints, ints_of l h2, D.iv]
    | _ => cases h1
theorem isStr_eq {s : String} {d : D} (h : isStr s d = true) : d = .str s := by
  cases d <;> simp [isStr] at h
  rw [h]
theorem isStr1_eq {s : String} {d : D} (h : isStr1 s d = true) : d = .tup [.str s] := by
  cases d with
  | tup l => match l, h with
    | [a], h => rw [isStr_eq h]
  | _ => simp [isStr1] at h
theorem bools_not (f : D → Bool) (l : List D) : oAny (.o (l.map fun d => .bl (!f d))) = some (.v (.bl (!l.all f))) := by
  rw [any_o]
  congr 3
  rw [List.any_map, List.all_eq_not_any_not]
  simp [Function.comp_def]
end Fx
end

section
set_option linter.all false
set_option maxRecDepth 10000
namespace Fx
/-- a loop that may hand back -/
theorem forGo_find {α : Type} {g : D → En → Option En} {b : C} (h : α → D) (I : En → Prop) (P : α → Option Vl) : ∀ (l : List α) (e : En), I e →
    (∀ a ∈ l, ∀ e, I e → ∃ e1 e2, g (h a) e = some e1 ∧ I e2 ∧ b e1 = (match P a with | none => .nxt e2 | some x => .ret x e2)) →
    ∃ e', I e' ∧ forGo g b (l.map h) e = (match l.findSome? P with | none => .nxt e' | some x => .ret x e')
  | [], e, hi, _ => ⟨e, hi, rfl⟩
  | a :: l, e, hi, hh => by
    obtain ⟨e1, e2, h1, h2, h3⟩ := hh a (by simp) e hi
    rw [List.map_cons]
    cases hp : P a with
    | some x =>
      rw [hp] at h3
      refine ⟨e2, h2, ?_⟩
      unfold forGo
      simp only [h1, h3, List.findSome?_cons, hp]
    | none =>
      rw [hp] at h3
      obtain ⟨e', h4, h5⟩ := forGo_find h I P l e2 h2 fun a ha => hh a (by simp [ha])
      refine ⟨e', h4, ?_⟩
      conv => lhs; unfold forGo
      simp only [h1, h3, List.findSome?_cons, hp]
      exact h5
/-! rows of places that grow -/
def lo (row : List Nat) : Nat := match row.getLast? with
  | none => 0
  | some x => x + 1
def chStep (n : Nat) (rows : List (List Nat)) : List (List Nat) := rows.flatMap fun row => (List.range' (lo row) (n - lo row)).map fun t => row ++ [t]
def chK (n : Nat) : Nat → List (List Nat)
  | 0 => [[]]
  | k + 1 => chStep n (chK n k)
theorem chK_mem {n : Nat} : ∀ {k : Nat} {row : List Nat}, row ∈ chK n k → row.length = k ∧ (∀ x ∈ row, x < n) ∧ row.Pairwise (· < ·)
  | 0, row, h => by simp [chK] at h; simp [h]
  | k + 1, row, h => by
    unfold chK chStep at h
    obtain ⟨r, hr, h2⟩ := List.mem_flatMap.mp h
    obtain ⟨t, ht, rfl⟩ := List.mem_map.mp h2
    obtain ⟨h3, h4, h5⟩ := chK_mem hr
    rw [List.mem_range'_1] at ht
    refine ⟨by simp [h3], fun x hx => ?_, ?_⟩
    · rcases List.mem_append.mp hx with q | q
      · exact h4 x q
      · simp at q; omega
    · rw [List.pairwise_append]
      refine ⟨h5, by simp, fun a ha b hb => ?_⟩
      simp at hb
      subst hb
      rcases List.eq_nil_or_concat r with rfl | ⟨r', z, rfl⟩
      · simp at ha
      · rw [List.concat_eq_append] at *
        have hl : lo (r' ++ [z]) = z + 1 := by unfold lo; simp
        rw [List.pairwise_append] at h5
        rcases List.mem_append.mp ha with q | q
        · have := h5.2.2 a q z (by simp); omega
        · simp at q; omega
theorem chStep_le (n : Nat) : ∀ rows : List (List Nat), (chStep n rows).length ≤ rows.length * n
  | [] => by simp [chStep]
  | a :: l => by
    unfold chStep
    rw [List.flatMap_cons, List.length_append, List.length_map, List.length_cons, Nat.add_mul, Nat.one_mul, List.length_range']
    have h2 := chStep_le n l
    unfold chStep at h2
    omega
theorem chK_le (n : Nat) : ∀ k, (chK n k).length ≤ n ^ k
  | 0 => by simp [chK]
  | k + 1 => by
    unfold chK
    refine Nat.le_trans (chStep_le n _) ?_
    rw [Nat.pow_succ]
    exact Nat.mul_le_mul_right n (chK_le n k)
theorem ch_bound {n k : Nat} (h8 : n ≤ 8) (hk : k < 8) : (chK n k).length * n ≤ lim := by
  have h1 := Nat.mul_le_mul_right n (chK_le n k)
  rw [← Nat.pow_succ] at h1
  have h2 : n ^ (k + 1) ≤ 8 ^ 8 := Nat.le_trans (Nat.pow_le_pow_left h8 _) (Nat.pow_le_pow_right (by omega) (by omega))
  have h3 : 8 ^ 8 ≤ lim := by unfold lim; decide
  exact Nat.le_trans h1 (Nat.le_trans h2 h3)
theorem rng_from (a n : Nat) : rng (a : Int) n = (List.range' a n).map fun (t : Nat) => D.int (t : Int) := by
  unfold rng
  rw [List.range'_eq_map_range, List.map_map]
  refine List.map_congr_left fun k _ => ?_
  simp only [Function.comp]
  congr 1
  all_goals omega
theorem ix_last (row : List Nat) (z : Nat) : oIx (.v (oi (row ++ [z]))) (.v (.int (-1))) = some (.v (.int (z : Int))) := by
  rw [ix_v _ _ _ (oi_items _)]
  unfold atD ixN
  simp only [List.length_map, List.length_append, List.length_singleton]
  rw [if_neg (by omega), if_pos (by omega)]
  have : ((-1 : Int) + ((row.length + 1 : Nat) : Int)).toNat = row.length := by omega
  rw [Option.bind_some, this]
  all_goals simp
theorem choices_ok {n k : Nat} (h8 : n ≤ 8) (hk : k ≤ 8) : G.F_choices [.v (.int (n : Int)), .v (.int (k : Int))] = .ok (.v (.lst ((chK n k).map oi))) [] := by
  unfold G.F_choices G.c_choices
  obtain ⟨e', h1, x2, r3, hx, rfl⟩ := forGoR (g := gN 3) (b := sSet 2 (eComp2 [4, 5] [5] (iL (eV 2)) (gN 4) tYes (iR2 (eIf (tT (eP 4)) (e2 oAdd (eIxP 4 (e1 oNeg (eC (.int 1)))) (eC (.int 1))) (eC (.int 0))) (eV 0)) (gN 5) tYes (e2 oAdd (eV 4) (eTup (eCons (eV 5) eNil)))))
    (fun j e => ∃ x2 r3, x2 = Vl.o ((chK n j).map oi) ∧ e = [some (.v (.int (n : Int))), some (.v (.int (k : Int))), some x2, r3, none, none]) k k 0 [some (.v (.int (n : Int))), some (.v (.int (k : Int))), some (.o [.tup []]), none, none, none] (by omega) ⟨_, none, rfl, rfl⟩ (by
      rintro j e hj ⟨x2, r3, rfl, rfl⟩
      refine ⟨_, [some (.v (.int (n : Int))), some (.v (.int (k : Int))), some (.o ((chK n (j + 1)).map oi)), some (.v (.int (j : Int))), none, none], rfl, ?_, _, _, rfl, rfl⟩
      have h := eComp2P (k1 := 4) (k2 := 5) (it := iL (eV 2)) (it1 := iR2 (eIf (tT (eP 4)) (e2 oAdd (eIxP 4 (e1 oNeg (eC (.int 1)))) (eC (.int 1))) (eC (.int 0))) (eV 0)) (t1 := tYes) (x := e2 oAdd (eV 4) (eTup (eCons (eV 5) eNil)))
        (e := [some (.v (.int (n : Int))), some (.v (.int (k : Int))), some (.o ((chK n j).map oi)), some (.v (.int (j : Int))), none, none]) (e1 := [some (.v (.int (n : Int))), some (.v (.int (k : Int))), some (.v (.lst ((chK n j).map oi))), some (.v (.int (j : Int))), none, none]) (l := (chK n j).map oi)
        (fun d => rng (lo d.row : Nat) (n - lo d.row)) (fun _ _ => true) (fun d c => oi (d.row ++ [c.nat])) n (by simp) rfl rfl (by decide) (by rw [List.length_map]; exact ch_bound h8 (by omega))
        (fun d hd => by
          obtain ⟨row, hrow, rfl⟩ := List.mem_map.mp hd
          obtain ⟨hl, hx, _⟩ := chK_mem hrow
          refine ⟨?_, by rw [rng_len]; omega⟩
          rw [row_oi]
          have sn : smallI (n : Int) = true := small_nat (by omega)
          rcases List.eq_nil_or_concat row with rfl | ⟨r', z, rfl⟩
          · have s0 : smallI 0 = true := small_le (by omega)
            simp [oi, Vl.truth, sn, s0, lo]
          · rw [List.concat_eq_append] at *
            have hz : z < n := hx z (by simp)
            have sz : smallI ((z : Int) + 1) = true := small_le (by omega)
            have hlo : lo (r' ++ [z]) = z + 1 := by unfold lo; simp
            have htr : (Vl.v (oi (r' ++ [z]))).truth = some true := by simp [oi, Vl.truth]
            have e1 : ((n : Int) - ((z : Int) + 1)).toNat = n - (z + 1) := by omega
            rw [hlo]
            simp [htr, ix_last, oNeg, sn, sz, e1])
        (fun d hd c hc => rfl)
        (fun d hd c hc _ => by
          obtain ⟨row, hrow, rfl⟩ := List.mem_map.mp hd
          obtain ⟨hl, _⟩ := chK_mem hrow
          rw [row_oi, rng_from] at hc
          obtain ⟨t, ht, rfl⟩ := List.mem_map.mp hc
          exact ⟨.v (oi (row ++ [t])), by simp [add_oi row t (by omega)], by simp [D.nat]⟩)
      simp only [List.set_cons_succ, List.set_cons_zero]
      unfold sSet
      rw [h]
      have e : (((chK n j).map oi).flatMap fun d => ((rng (lo d.row : Nat) (n - lo d.row)).filter fun _ => true).map fun c => oi (d.row ++ [c.nat])) = (chK n (j + 1)).map oi := by
        show _ = (chStep n (chK n j)).map oi
        unfold chStep
        rw [List.flatMap_map, List.map_flatMap]
        congr 1
        funext row
        rw [row_oi, rng_from, List.filter_eq_self.mpr (by simp), List.map_map, List.map_map]
        rfl
      rw [e]
      rfl)
  rw [← rng_range'] at h1
  subst hx
  have hfor : sFor (iR1 (eV 1)) (gN 3) (sSet 2 (eComp2 [4, 5] [5] (iL (eV 2)) (gN 4) tYes (iR2 (eIf (tT (eP 4)) (e2 oAdd (eIxP 4 (e1 oNeg (eC (.int 1)))) (eC (.int 1))) (eC (.int 0))) (eV 0)) (gN 5) tYes (e2 oAdd (eV 4) (eTup (eCons (eV 5) eNil))))) [some (.v (.int (n : Int))), some (.v (.int (k : Int))), some (.o [.tup []]), none, none, none] = .nxt [some (.v (.int (n : Int))), some (.v (.int (k : Int))), some (.o ((chK n k).map oi)), r3, none, none] := by
    rw [s_sFor, iR1_nat (n := k) (e' := [some (.v (.int (n : Int))), some (.v (.int (k : Int))), some (.o [.tup []]), none, none, none]) (by simp) (by omega)]
    exact h1
  generalize sFor (iR1 (eV 1)) (gN 3) (sSet 2 (eComp2 [4, 5] [5] (iL (eV 2)) (gN 4) tYes (iR2 (eIf (tT (eP 4)) (e2 oAdd (eIxP 4 (e1 oNeg (eC (.int 1)))) (eC (.int 1))) (eC (.int 0))) (eV 0)) (gN 5) tYes (e2 oAdd (eV 4) (eTup (eCons (eV 5) eNil))))) = Y at hfor ⊢
  simp [hfor]
end Fx
end

section
set_option linter.all false
set_option maxRecDepth 10000
namespace Fx
def oom (T : List (List Int)) : List (List D) := T.map fun r => r.map D.int
theorem ixN_nat {n i : Nat} (h : i < n) : ixN n (i : Int) = some i := by
  unfold ixN
  rw [if_pos (by omega), if_pos (by omega)]
  simp
theorem oom_get {n : Nat} {T : List (List Int)} (h : Sq n T) {i : Nat} (hi : i < n) : (oom T)[i]? = some ((T.getD i []).map D.int) := by
  unfold oom
  rw [List.getElem?_map, get_of (by rw [h.len]; exact hi) []]
  rfl
theorem oom_set (T : List (List Int)) (i j : Nat) (v : Int) : (oom T).set i (((T.getD i []).map D.int).set j (.int v)) = oom (set2 T i j v) := by
  unfold oom set2
  rw [List.map_set, List.map_set]
theorem gIx2_ok {n k : Nat} {T : List (List Int)} (h : Sq n T) {f g : N} {e : En} {i j : Nat} (hk : e[k]? = some (some (.oo (oom T)))) (hf : f e = some (i : Int)) (hg : g e = some (j : Int)) (hi : i < n) (hj : j < n) (v : Int) :
    gIx2 k f g (.int v) e = some (e.set k (some (.oo (oom (set2 T i j v))))) := by
  have hl : (oom T).length = n := by unfold oom; rw [List.length_map]; exact h.len
  have hr : ((T.getD i []).map D.int).length = n := by rw [List.length_map]; exact h.row i hi
  unfold gIx2
  simp only [hk, hf, hg, hl, ixN_nat hi, Option.bind_some, oom_get h hi, hr, ixN_nat hj, Option.map_some, oom_set]
theorem eIxPP_ok {n k : Nat} {T : List (List Int)} (h : Sq n T) {f g : N} {e : En} {i j : Nat} (hk : e[k]? = some (some (.oo (oom T)))) (hf : f e = some (i : Int)) (hg : g e = some (j : Int)) (hi : i < n) (hj : j < n) :
    eIxPP k f g e = .ok (.v (.int (at2 T i j))) e := by
  have hl : (oom T).length = n := by unfold oom; rw [List.length_map]; exact h.len
  unfold eIxPP
  simp only [hk, hf, hg]
  rw [atD_nat, oom_get h hi, Option.bind_some, atD_nat, List.getElem?_map, get_of (by rw [h.row i hi]; exact hj) 0]
  rfl
theorem table_spec (s : Rd) (n : Nat) (top : Int) (h1 : 1 ≤ n) (h8 : n ≤ 8) (t0 : 1 ≤ top) (t1 : top ≤ 1000) : ∃ T s', TabI n top T ∧ G.F__law_table [s.v, .v (.int (n : Int)), .v (.int top)] = .ok (.v (tt T)) [Rd.v s'] := by
  unfold G.F__law_table G.c__law_table
  have start : TabI n top (List.replicate n (List.replicate n 0)) := by
    have g : ∀ a b, a < n → b < n → at2 (List.replicate n (List.replicate n 0)) a b = 0 := fun a b ha hb => by
      unfold at2
      simp [List.getD, List.getElem?_replicate, ha, hb]
    refine ⟨⟨by simp, fun i hi => ?_⟩, fun a b ha hb => by rw [g a b ha hb, g b a hb ha], fun a b ha hb => ?_, fun a ha => g a a ha ha⟩
    · simp [List.getD, List.getElem?_replicate, hi]
    · rw [g a b ha hb]; exact ⟨by omega, by omega⟩
  have inner : ∀ (i : Nat), i < n → ∀ (s : Rd) (T : List (List Int)) (r5 : Option Vl), TabI n top T → ∃ e', forGo (gN 5) (sSeq (sTo (gIx2 3 (nV 4) (nV 5)) (e2 oAdd (eC (.int 1)) (eCall G.F__law_take [.lent 0, .va (eV 2)]))) (sTo (gIx2 3 (nV 5) (nV 4)) (eIxPP 3 (nV 4) (nV 5)))) (rng 0 i)
      [some s.v, some (.v (.int (n : Int))), some (.v (.int top)), some (.oo (oom T)), some (.v (.int (i : Int))), r5, none, none] = .nxt e' ∧ ∃ s' T' r, TabI n top T' ∧ e' = [some (Rd.v s'), some (.v (.int (n : Int))), some (.v (.int top)), some (.oo (oom T')), some (.v (.int (i : Int))), r, none, none] := by
    intro i hi s T r5 hT
    refine forGo_nxt (fun e => ∃ s' T' r, TabI n top T' ∧ e = [some (Rd.v s'), some (.v (.int (n : Int))), some (.v (.int top)), some (.oo (oom T')), some (.v (.int (i : Int))), r, none, none]) _ _ ⟨s, T, r5, hT, rfl⟩ ?_
    rintro d hd e ⟨s1, T1, r1, hT1, rfl⟩
    obtain ⟨j, hj, rfl⟩ := rng_mem hd
    obtain ⟨r, s2, q0, q1, ht⟩ := take_spec s1 top (by omega) (by omega)
    have e0 : (0 : Int) + (j : Int) = (j : Int) := by omega
    rw [e0]
    refine ⟨_, [some (Rd.v s2), some (.v (.int (n : Int))), some (.v (.int top)), some (.oo (oom (set2 (set2 T1 i j (1 + r)) j i (1 + r)))), some (.v (.int (i : Int))), some (.v (.int (j : Int))), none, none], rfl, ?_, s2, _, _, tab_step hT1 hi hj (by omega) (by omega), rfl⟩
    have g1 := gIx2_ok (k := 3) (f := nV 4) (g := nV 5) (e := [some (Rd.v s2), some (.v (.int (n : Int))), some (.v (.int top)), some (.oo (oom T1)), some (.v (.int (i : Int))), some (.v (.int (j : Int))), none, none]) hT1.sq rfl rfl rfl hi (by omega : j < n) (1 + r)
    have sq2 := sq_set2 hT1.sq i j (1 + r)
    have g2 := eIxPP_ok (k := 3) (f := nV 4) (g := nV 5) (e := [some (Rd.v s2), some (.v (.int (n : Int))), some (.v (.int top)), some (.oo (oom (set2 T1 i j (1 + r)))), some (.v (.int (i : Int))), some (.v (.int (j : Int))), none, none]) sq2 rfl rfl rfl hi (by omega : j < n)
    have g3 := gIx2_ok (k := 3) (f := nV 5) (g := nV 4) (e := [some (Rd.v s2), some (.v (.int (n : Int))), some (.v (.int top)), some (.oo (oom (set2 T1 i j (1 + r)))), some (.v (.int (i : Int))), some (.v (.int (j : Int))), none, none]) sq2 rfl rfl rfl (by omega : j < n) hi (1 + r)
    have ha : at2 (set2 T1 i j (1 + r)) i j = 1 + r := by rw [at_set2 hT1.sq hi (by omega)]; simp
    rw [ha] at g2
    simp only [List.set_cons_succ, List.set_cons_zero] at g1 g3
    simp [ht, -s_gIx2, -s_eIxPP, g1, g2, g3]
  have init := eCompO1 (k := 6) (it := iR1 (eV 1)) (x := e2 oMul (eLst (eCons (eC (.int 0)) eNil)) (eV 1)) (e := [some s.v, some (.v (.int (n : Int))), some (.v (.int top)), none, none, none, none, none]) (e1 := [some s.v, some (.v (.int (n : Int))), some (.v (.int top)), none, none, none, none, none]) (l := rng 0 n) (fun _ => List.replicate n (.int 0))
    (iR1_nat (by simp) (by omega)) (by rw [rng_len]; unfold lim; omega) rfl (fun d _ => by
      have hz : smallI (n : Int) = true ∧ [D.int 0].length * ((n : Int)).toNat ≤ lim := ⟨small_nat (by omega), by simp [lim]; omega⟩
      have hm : oMul (.o [.int 0]) (.v (.int (n : Int))) = some (.o (List.replicate n (.int 0))) := by
        unfold oMul
        dsimp only
        rw [if_pos hz]
        simp
      simp [hm])
  have e0 : ((rng 0 n).map fun _ => List.replicate n (D.int 0)) = oom (List.replicate n (List.replicate n 0)) := by
    unfold oom
    rw [List.map_replicate, List.map_replicate, List.map_const', rng_len]
  rw [e0] at init
  obtain ⟨e9, ho, s9, T9, r4, r5, hT9, rfl⟩ := forGo_nxt (g := gN 4) (b := sFor (iR1 (eV 4)) (gN 5) (sSeq (sTo (gIx2 3 (nV 4) (nV 5)) (e2 oAdd (eC (.int 1)) (eCall G.F__law_take [.lent 0, .va (eV 2)]))) (sTo (gIx2 3 (nV 5) (nV 4)) (eIxPP 3 (nV 4) (nV 5)))))
    (fun e => ∃ s' T' r4 r5, TabI n top T' ∧ e = [some (Rd.v s'), some (.v (.int (n : Int))), some (.v (.int top)), some (.oo (oom T')), r4, r5, none, none]) (rng 0 n) [some s.v, some (.v (.int (n : Int))), some (.v (.int top)), some (.oo (oom (List.replicate n (List.replicate n 0)))), none, none, none, none] ⟨s, _, none, none, start, rfl⟩ (by
      rintro d hd e ⟨s1, T1, r4, r5, hT1, rfl⟩
      obtain ⟨i, hi, rfl⟩ := rng_mem hd
      have e0 : (0 : Int) + (i : Int) = (i : Int) := by omega
      rw [e0]
      obtain ⟨e', h1, s2, T2, r, hT2, rfl⟩ := inner i hi s1 T1 r5 hT1
      refine ⟨_, _, rfl, ?_, s2, T2, some (.v (.int (i : Int))), r, hT2, rfl⟩
      unfold sFor
      rw [iR1_nat (n := i) (e' := [some s1.v, some (.v (.int (n : Int))), some (.v (.int top)), some (.oo (oom T1)), some (.v (.int (i : Int))), r5, none, none]) (by simp) (by omega)]
      exact h1)
  refine ⟨T9, s9, hT9, ?_⟩
  have fin := eCompA (k := 7) (it := iL (eV 3)) (x := e1 oTuple (eP 7)) (e := [some (Rd.v s9), some (.v (.int (n : Int))), some (.v (.int top)), some (.oo (oom T9)), r4, r5, none, none]) (e1 := [some (Rd.v s9), some (.v (.int (n : Int))), some (.v (.int top)), some (.v (.lst ((oom T9).map .lst))), r4, r5, none, none]) (l := (oom T9).map .lst)
    (fun d => match d with | .lst r => .tup r | d => d) (by simp) (by rw [List.length_map]; unfold oom; rw [List.length_map, hT9.sq.len]; unfold lim; omega) rfl (fun d hd => by
      obtain ⟨r, _, rfl⟩ := List.mem_map.mp hd
      exact ⟨.v (.tup r), by simp, rfl⟩)
  have ef : (((oom T9).map D.lst).map fun d => match d with | .lst r => D.tup r | d => d) = T9.map ti := by
    unfold oom ti
    simp
  rw [ef] at fin
  have hfor : sFor (iR1 (eV 1)) (gN 4) (sFor (iR1 (eV 4)) (gN 5) (sSeq (sTo (gIx2 3 (nV 4) (nV 5)) (e2 oAdd (eC (.int 1)) (eCall G.F__law_take [.lent 0, .va (eV 2)]))) (sTo (gIx2 3 (nV 5) (nV 4)) (eIxPP 3 (nV 4) (nV 5))))) [some s.v, some (.v (.int (n : Int))), some (.v (.int top)), some (.oo (oom (List.replicate n (List.replicate n 0)))), none, none, none, none] = .nxt [some (Rd.v s9), some (.v (.int (n : Int))), some (.v (.int top)), some (.oo (oom T9)), r4, r5, none, none] := by
    rw [s_sFor, iR1_nat (n := n) (e' := [some s.v, some (.v (.int (n : Int))), some (.v (.int top)), some (.oo (oom (List.replicate n (List.replicate n 0)))), none, none, none, none]) (by simp) (by omega)]
    exact ho
  generalize sFor (iR1 (eV 1)) (gN 4) (sFor (iR1 (eV 4)) (gN 5) (sSeq (sTo (gIx2 3 (nV 4) (nV 5)) (e2 oAdd (eC (.int 1)) (eCall G.F__law_take [.lent 0, .va (eV 2)]))) (sTo (gIx2 3 (nV 5) (nV 4)) (eIxPP 3 (nV 4) (nV 5))))) = Y at hfor ⊢
  generalize eCompO [6] (iR1 (eV 1)) (gN 6) tYes (e2 oMul (eLst (eCons (eC (.int 0)) eNil)) (eV 1)) = Z at init ⊢
  generalize eComp [7] (iL (eV 3)) (gN 7) tYes (e1 oTuple (eP 7)) = U at fin ⊢
  simp [init, hfor, fin, tt]
end Fx
end

section
set_option linter.all false
set_option maxRecDepth 10000
namespace Fx
/-- what is written so far is above 0 -/
def Pz (n i j : Nat) (T : List (List Int)) : Prop := ∀ a b, a < n → b < a → (a < i ∨ (a = i ∧ b < j)) → 0 < at2 T a b
theorem table_spec' (s : Rd) (n : Nat) (top : Int) (h1 : 1 ≤ n) (h8 : n ≤ 8) (t0 : 1 ≤ top) (t1 : top ≤ 1000) : ∃ T s', TabI n top T ∧ (∀ i j, i < n → j < n → i ≠ j → 0 < at2 T i j) ∧ G.F__law_table [s.v, .v (.int (n : Int)), .v (.int top)] = .ok (.v (tt T)) [Rd.v s'] := by
  unfold G.F__law_table G.c__law_table
  have start : TabI n top (List.replicate n (List.replicate n 0)) := by
    have g : ∀ a b, a < n → b < n → at2 (List.replicate n (List.replicate n 0)) a b = 0 := fun a b ha hb => by
      unfold at2
      simp [List.getD, List.getElem?_replicate, ha, hb]
    refine ⟨⟨by simp, fun i hi => ?_⟩, fun a b ha hb => by rw [g a b ha hb, g b a hb ha], fun a b ha hb => ?_, fun a ha => g a a ha ha⟩
    · simp [List.getD, List.getElem?_replicate, hi]
    · rw [g a b ha hb]; exact ⟨by omega, by omega⟩
  have inner : ∀ (i : Nat), i < n → ∀ (s : Rd) (T : List (List Int)) (r5 : Option Vl), TabI n top T → Pz n i 0 T → ∃ s' T' r, (TabI n top T' ∧ Pz n (i + 1) 0 T') ∧ sFor (iR1 (eV 4)) (gN 5) (sSeq (sTo (gIx2 3 (nV 4) (nV 5)) (e2 oAdd (eC (.int 1)) (eCall G.F__law_take [.lent 0, .va (eV 2)]))) (sTo (gIx2 3 (nV 5) (nV 4)) (eIxPP 3 (nV 4) (nV 5)))) [some (Rd.v s), some (.v (.int (n : Int))), some (.v (.int top)), some (.oo (oom T)), some (.v (.int (i : Int))), r5, none, none] = .nxt [some (Rd.v s'), some (.v (.int (n : Int))), some (.v (.int top)), some (.oo (oom T')), some (.v (.int (i : Int))), r, none, none] := by
    intro i hi s T r5 hT hP
    obtain ⟨e', h1, s', T', r, ⟨hT', hP'⟩, rfl⟩ := forGoR (g := gN 5) (b := (sSeq (sTo (gIx2 3 (nV 4) (nV 5)) (e2 oAdd (eC (.int 1)) (eCall G.F__law_take [.lent 0, .va (eV 2)]))) (sTo (gIx2 3 (nV 5) (nV 4)) (eIxPP 3 (nV 4) (nV 5))))) (fun k e => ∃ s' T' r, (TabI n top T' ∧ Pz n i k T') ∧ e = [some (Rd.v s'), some (.v (.int (n : Int))), some (.v (.int top)), some (.oo (oom T')), some (.v (.int (i : Int))), r, none, none]) i i 0 [some (Rd.v s), some (.v (.int (n : Int))), some (.v (.int top)), some (.oo (oom T)), some (.v (.int (i : Int))), r5, none, none] (by omega) ⟨s, T, r5, ⟨hT, hP⟩, rfl⟩ (by
      rintro j e hj ⟨s1, T1, r1, ⟨hT1, hP1⟩, rfl⟩
      obtain ⟨r, s2, q0, q1, ht⟩ := take_spec s1 top (by omega) (by omega)
      refine ⟨_, [some (Rd.v s2), some (.v (.int (n : Int))), some (.v (.int top)), some (.oo (oom (set2 (set2 T1 i j (1 + r)) j i (1 + r)))), some (.v (.int (i : Int))), some (.v (.int (j : Int))), none, none], rfl, ?_, s2, _, _, ⟨tab_step hT1 hi hj (by omega) (by omega), ?_⟩, rfl⟩
      · have g1 := gIx2_ok (k := 3) (f := nV 4) (g := nV 5) (e := [some (Rd.v s2), some (.v (.int (n : Int))), some (.v (.int top)), some (.oo (oom T1)), some (.v (.int (i : Int))), some (.v (.int (j : Int))), none, none]) hT1.sq rfl rfl rfl hi (by omega : j < n) (1 + r)
        have sq2 := sq_set2 hT1.sq i j (1 + r)
        have g2 := eIxPP_ok (k := 3) (f := nV 4) (g := nV 5) (e := [some (Rd.v s2), some (.v (.int (n : Int))), some (.v (.int top)), some (.oo (oom (set2 T1 i j (1 + r)))), some (.v (.int (i : Int))), some (.v (.int (j : Int))), none, none]) sq2 rfl rfl rfl hi (by omega : j < n)
        have g3 := gIx2_ok (k := 3) (f := nV 5) (g := nV 4) (e := [some (Rd.v s2), some (.v (.int (n : Int))), some (.v (.int top)), some (.oo (oom (set2 T1 i j (1 + r)))), some (.v (.int (i : Int))), some (.v (.int (j : Int))), none, none]) sq2 rfl rfl rfl (by omega : j < n) hi (1 + r)
        have ha : at2 (set2 T1 i j (1 + r)) i j = 1 + r := by rw [at_set2 hT1.sq hi (by omega)]; simp
        rw [ha] at g2
        simp only [List.set_cons_succ, List.set_cons_zero] at g1 g3
        simp [ht, -s_gIx2, -s_eIxPP, g1, g2, g3]
      · intro a b ha hb hab
        rw [at_set2 (sq_set2 hT1.sq i j _) (by omega) hi, at_set2 hT1.sq hi (by omega)]
        by_cases c1 : a = j ∧ b = i
        · rw [if_pos c1]; omega
        · rw [if_neg c1]
          by_cases c2 : a = i ∧ b = j
          · rw [if_pos c2]; omega
          · rw [if_neg c2]
            exact hP1 a b ha hb (by omega))
    rw [← rng_range'] at h1
    refine ⟨s', T', r, ⟨hT', fun a b ha hb hab => hP' a b ha hb (by omega)⟩, ?_⟩
    rw [s_sFor, iR1_nat (n := i) (e' := [some (Rd.v s), some (.v (.int (n : Int))), some (.v (.int top)), some (.oo (oom T)), some (.v (.int (i : Int))), r5, none, none]) (by simp) (by omega)]
    exact h1
  have init := eCompO1 (k := 6) (it := iR1 (eV 1)) (x := e2 oMul (eLst (eCons (eC (.int 0)) eNil)) (eV 1)) (e := [some s.v, some (.v (.int (n : Int))), some (.v (.int top)), none, none, none, none, none]) (e1 := [some s.v, some (.v (.int (n : Int))), some (.v (.int top)), none, none, none, none, none]) (l := rng 0 n) (fun _ => List.replicate n (.int 0))
    (iR1_nat (by simp) (by omega)) (by rw [rng_len]; unfold lim; omega) rfl (fun d _ => by
      have hz : smallI (n : Int) = true ∧ [D.int 0].length * ((n : Int)).toNat ≤ lim := ⟨small_nat (by omega), by simp [lim]; omega⟩
      have hm : oMul (.o [.int 0]) (.v (.int (n : Int))) = some (.o (List.replicate n (.int 0))) := by
        unfold oMul
        dsimp only
        rw [if_pos hz]
        simp
      simp [hm])
  have e0 : ((rng 0 n).map fun _ => List.replicate n (D.int 0)) = oom (List.replicate n (List.replicate n 0)) := by
    unfold oom
    rw [List.map_replicate, List.map_replicate, List.map_const', rng_len]
  rw [e0] at init
  obtain ⟨e9, ho, s9, T9, r4, r5, ⟨hT9, hP9⟩, rfl⟩ := forGoR (g := gN 4) (b := sFor (iR1 (eV 4)) (gN 5) (sSeq (sTo (gIx2 3 (nV 4) (nV 5)) (e2 oAdd (eC (.int 1)) (eCall G.F__law_take [.lent 0, .va (eV 2)]))) (sTo (gIx2 3 (nV 5) (nV 4)) (eIxPP 3 (nV 4) (nV 5)))))
    (fun k e => ∃ s' T' r4 r5, (TabI n top T' ∧ Pz n k 0 T') ∧ e = [some (Rd.v s'), some (.v (.int (n : Int))), some (.v (.int top)), some (.oo (oom T')), r4, r5, none, none]) n n 0 [some (Rd.v s), some (.v (.int (n : Int))), some (.v (.int top)), some (.oo (oom (List.replicate n (List.replicate n 0)))), none, none, none, none] (by omega) ⟨s, _, none, none, ⟨start, fun a b ha hb hab => by omega⟩, rfl⟩ (by
      rintro i e hi ⟨s1, T1, r4, r5, ⟨hT1, hP1⟩, rfl⟩
      obtain ⟨s2, T2, r, hT2, h1⟩ := inner i hi s1 T1 r5 hT1 hP1
      exact ⟨_, _, rfl, h1, s2, T2, some (.v (.int (i : Int))), r, hT2, rfl⟩)
  rw [← rng_range'] at ho
  have hps : ∀ i j, i < n → j < n → i ≠ j → 0 < at2 T9 i j := fun i j hi hj hij => by
    rcases Nat.lt_or_ge j i with q | q
    · exact hP9 i j hi q (by omega)
    · rw [hT9.sy i j hi hj]
      exact hP9 j i hj (by omega) (by omega)
  refine ⟨T9, s9, hT9, hps, ?_⟩
  have fin := eCompA (k := 7) (it := iL (eV 3)) (x := e1 oTuple (eP 7)) (e := [some (Rd.v s9), some (.v (.int (n : Int))), some (.v (.int top)), some (.oo (oom T9)), r4, r5, none, none]) (e1 := [some (Rd.v s9), some (.v (.int (n : Int))), some (.v (.int top)), some (.v (.lst ((oom T9).map .lst))), r4, r5, none, none]) (l := (oom T9).map .lst)
    (fun d => match d with | .lst r => .tup r | d => d) (by simp) (by rw [List.length_map]; unfold oom; rw [List.length_map, hT9.sq.len]; unfold lim; omega) rfl (fun d hd => by
      obtain ⟨r, _, rfl⟩ := List.mem_map.mp hd
      exact ⟨.v (.tup r), by simp, rfl⟩)
  have ef : (((oom T9).map D.lst).map fun d => match d with | .lst r => D.tup r | d => d) = T9.map ti := by
    unfold oom ti
    simp
  rw [ef] at fin
  have hfor : sFor (iR1 (eV 1)) (gN 4) (sFor (iR1 (eV 4)) (gN 5) (sSeq (sTo (gIx2 3 (nV 4) (nV 5)) (e2 oAdd (eC (.int 1)) (eCall G.F__law_take [.lent 0, .va (eV 2)]))) (sTo (gIx2 3 (nV 5) (nV 4)) (eIxPP 3 (nV 4) (nV 5))))) [some s.v, some (.v (.int (n : Int))), some (.v (.int top)), some (.oo (oom (List.replicate n (List.replicate n 0)))), none, none, none, none] = .nxt [some (Rd.v s9), some (.v (.int (n : Int))), some (.v (.int top)), some (.oo (oom T9)), r4, r5, none, none] := by
    rw [s_sFor, iR1_nat (n := n) (e' := [some s.v, some (.v (.int (n : Int))), some (.v (.int top)), some (.oo (oom (List.replicate n (List.replicate n 0)))), none, none, none, none]) (by simp) (by omega)]
    exact ho
  generalize sFor (iR1 (eV 1)) (gN 4) (sFor (iR1 (eV 4)) (gN 5) (sSeq (sTo (gIx2 3 (nV 4) (nV 5)) (e2 oAdd (eC (.int 1)) (eCall G.F__law_take [.lent 0, .va (eV 2)]))) (sTo (gIx2 3 (nV 5) (nV 4)) (eIxPP 3 (nV 4) (nV 5))))) = Y at hfor ⊢
  generalize eCompO [6] (iR1 (eV 1)) (gN 6) tYes (e2 oMul (eLst (eCons (eC (.int 0)) eNil)) (eV 1)) = Z at init ⊢
  generalize eComp [7] (iL (eV 3)) (gN 7) tYes (e1 oTuple (eP 7)) = U at fin ⊢
  simp [init, hfor, fin, tt]
end Fx
end

section
set_option linter.all false
set_option maxRecDepth 10000
namespace Fx
mutual
/-- the longest tuple in it -/
def D.wid : D → Nat
  | .tup l => max l.length (D.wids l)
  | .lst l => max l.length (D.wids l)
  | _ => 0
def D.wids : List D → Nat
  | [] => 0
  | a :: l => max (D.wid a) (D.wids l)
end
/-- no deeper than k, no wider than w -/
def Bd (k w : Nat) (d : D) : Prop := d.dep ≤ k ∧ d.wid ≤ w
theorem deps_le (k : Nat) : ∀ l : List D, D.deps l ≤ k ↔ ∀ x ∈ l, x.dep ≤ k
  | [] => by simp [D.deps]
  | a :: l => by simp only [D.deps, List.forall_mem_cons, ← deps_le k l]; omega
theorem wids_le (k : Nat) : ∀ l : List D, D.wids l ≤ k ↔ ∀ x ∈ l, x.wid ≤ k
  | [] => by simp [D.wids]
  | a :: l => by simp only [D.wids, List.forall_mem_cons, ← wids_le k l]; omega
theorem bd_tup {k w : Nat} {l : List D} : Bd (k + 1) w (.tup l) ↔ l.length ≤ w ∧ ∀ x ∈ l, Bd k w x := by
  unfold Bd
  simp only [D.dep, D.wid, forall_and]
  rw [← deps_le, ← wids_le]
  omega
theorem bd_zero {w : Nat} {l : List D} : ¬ Bd 0 w (.tup l) := by
  unfold Bd
  simp [D.dep]
theorem Bd.mono {k k' w w' : Nat} {d : D} (h : Bd k w d) (hk : k ≤ k') (hw : w ≤ w') : Bd k' w' d := ⟨by have := h.1; omega, by have := h.2; omega⟩
theorem bd_int {k w : Nat} (i : Int) : Bd k w (.int i) := ⟨by simp [D.dep], by simp [D.wid]⟩
theorem bd_str {k w : Nat} (i : String) : Bd k w (.str i) := ⟨by simp [D.dep], by simp [D.wid]⟩
theorem bd_bl {k w : Nat} (i : Bool) : Bd k w (.bl i) := ⟨by simp [D.dep], by simp [D.wid]⟩
theorem bd_non {k w : Nat} : Bd k w .non := ⟨by simp [D.dep], by simp [D.wid]⟩
theorem bd_emp {k w : Nat} : Bd (k + 1) w (.tup []) := bd_tup.mpr ⟨by simp, by simp⟩
theorem bd_one {k w : Nat} (s : String) (h : 1 ≤ w) : Bd (k + 1) w (.tup [.str s]) := bd_tup.mpr ⟨by simpa using h, by simp [bd_str]⟩
theorem cut_to {α : Type} (l : List α) (k : Nat) (h : k ≤ l.length) : cutL l none (some (k : Int)) = l.take k := by
  unfold cutL sIx
  have : ¬ ((k : Int) < 0) := by omega
  simp [this, h, Nat.min_eq_left h]
theorem cut_from {α : Type} (l : List α) (k : Nat) (h : k ≤ l.length) : cutL l (some (k : Int)) none = l.drop k := by
  unfold cutL sIx
  have : ¬ ((k : Int) < 0) := by omega
  simp [this, h, Nat.min_eq_left h]
  exact List.take_of_length_le (by simp)
theorem pickL_spec (s : Rd) (l : List D) (h0 : 0 < l.length) (h1 : l.length ≤ 1000000) : ∃ d s', d ∈ l ∧ G.F__law_pick [s.v, .v (.lst l)] = .ok (.v d) [Rd.v s'] := pick_spec s (.lst l) l rfl h0 h1
def tail1 : List D := [.non, .int 0, .tup [], .str "gen", .str "", .bl true, .str "in", .tup [.str "one"]]
theorem tail_ok (s : Rd) (d : D) (k w : Nat) (hw : 1 ≤ w) : ∃ d' s', Bd (k + 1) w d' ∧ (sSeq (sIf (tOr (tT (e1 (oIsA .tBool) (eP 1))) (tNot (tT (e1 (oIsA .tInt) (eP 1))))) (sRet (eCall G.F__law_pick [.lent 0, .va (eLst (eCons (eC .non) (eCons (eC (.int 0)) (eCons (eTup eNil) (eCons (eC (.str "gen")) (eCons (eC (.str "")) (eCons (eC (.bl true)) (eCons (eC (.str "in")) (eCons (eTup (eCons (eC (.str "one")) eNil)) eNil)))))))))])) sNil)
  (sRet (eCall G.F__law_pick [.lent 0, .va (eLst (eCons (e2 oAdd (eV 1) (eC (.int 1))) (eCons (e2 oSub (eV 1) (eC (.int 1))) (eCons (eC (.int 0)) (eCons (e2 oSub (eC (.int 0)) (eC (.int 1))) (eCons (eC (.int 1)) (eCons (e2 oAdd (eV 1) (eC (.int 2))) (eCons (e2 oSub (eV 1) (eC (.int 2))) (eCons (eC .non) (eCons (eTup eNil) (eCons (e2 oMul (eV 1) (eC (.int 7))) (eCons (eC (.bl true)) (eCons (eC (.str "one")) eNil)))))))))))))]))) [some s.v, some (.v d), none, none, none, none] = .ret (.v d') [some (Rd.v s'), some (.v d), none, none, none, none] := by
  have b1 : ∀ x ∈ tail1, Bd (k + 1) w x := by
    intro x hx
    simp [tail1] at hx
    rcases hx with rfl | rfl | rfl | rfl | rfl | rfl | rfl | rfl
    · exact bd_non
    · exact bd_int _
    · exact bd_emp
    · exact bd_str _
    · exact bd_str _
    · exact bd_bl _
    · exact bd_str _
    · exact bd_one _ hw
  obtain ⟨d', s', hd, h⟩ := pickL_spec s tail1 (by simp [tail1]) (by simp [tail1])
  unfold tail1 at h
  cases d with
  | int i =>
    obtain ⟨d', s', hd, h⟩ := pickL_spec s [.int (i + 1), .int (i - 1), .int 0, .int (-1), .int 1, .int (i + 2), .int (i - 2), .non, .tup [], .int (i * 7), .bl true, .str "one"] (by simp) (by simp)
    refine ⟨d', s', ?_, ?_⟩
    · simp at hd
      rcases hd with rfl | rfl | rfl | rfl | rfl | rfl | rfl | rfl | rfl | rfl | rfl | rfl <;> first | exact bd_int _ | exact bd_str _ | exact bd_bl _ | exact bd_non | exact bd_emp
    · have hm : mulOk i 7 = true := by unfold mulOk; simp
      have hmul : oMul (.v (.int i)) (.v (.int 7)) = some (.v (.int (i * 7))) := by simp [oMul, hm]
      simp [D.isA, hmul, h]
  | _ => exact ⟨d', s', b1 _ hd, by simp [D.isA, h]⟩
@[simp] theorem vint_v (i : Int) : (Vl.v (.int i)).int = some i := rfl
theorem oCut_to (l : List D) (k : Nat) (h : k ≤ l.length) : oCut (.v (.tup l)) none (some (k : Int)) = some (.v (.tup (l.take k))) := by simp [oCut, cut_to l k h]
theorem oCut_from (l : List D) (k : Nat) (h : k ≤ l.length) : oCut (.v (.tup l)) (some (k : Int)) none = some (.v (.tup (l.drop k))) := by simp [oCut, cut_from l k h]
theorem oAdd_tup (l m : List D) (h : l.length + m.length ≤ lim) : oAdd (.v (.tup l)) (.v (.tup m)) = some (.v (.tup (l ++ m))) := by simp [oAdd, h]
theorem ix_tup (l : List D) (k : Nat) (h : k < l.length) : oIx (.v (.tup l)) (.v (.int (k : Int))) = some (.v l[k]) := by
  rw [ix_v _ l _ rfl, atD_nat, List.getElem?_eq_getElem h]
  rfl
theorem oMul_zero (r : Nat) (h : r ≤ 1000) : oMul (.v (.tup [.int 0])) (.v (.int (r : Int))) = some (.v (.tup (List.replicate r (.int 0)))) := by
  unfold oMul
  have : (List.replicate (Int.toNat (r : Int)) [D.int 0]).flatten = List.replicate r (.int 0) := by
    simp
  simp
  omega
end Fx
end

section
set_option linter.all false
set_option maxRecDepth 10000
namespace Fx
/-! shortest ways -/
def fM (k : Nat) (f : Nat → Nat → Int) : Nat → Nat → Int := fun i j => min (f i j) (f i k + f k j)
def flF : Nat → (Nat → Nat → Int) → (Nat → Nat → Int)
  | 0, f => f
  | k + 1, f => fM k (flF k f)
/-- not below 0, 0 at home -/
structure Nn (n : Nat) (f : Nat → Nat → Int) : Prop where
  pos : ∀ i j, i < n → j < n → 0 ≤ f i j
  dg : ∀ i, i < n → f i i = 0
theorem nn_fM {n k : Nat} {f : Nat → Nat → Int} (h : Nn n f) (hk : k < n) : Nn n (fM k f) := by
  refine ⟨fun i j hi hj => ?_, fun i hi => ?_⟩
  · unfold fM
    have h1 := h.pos i j hi hj
    have h2 := h.pos i k hi hk
    have h3 := h.pos k j hk hj
    omega
  · unfold fM
    have h1 := h.dg i hi
    have h2 := h.pos i k hi hk
    have h3 := h.pos k i hk hi
    omega
theorem nn_fl {n : Nat} {f : Nat → Nat → Int} (h : Nn n f) : ∀ k, k ≤ n → Nn n (flF k f)
  | 0, _ => h
  | k + 1, hk => nn_fM (nn_fl h k (by omega)) (by omega)
theorem fl_le {n : Nat} {f : Nat → Nat → Int} : ∀ k i j, flF k f i j ≤ f i j
  | 0, i, j => Int.le_refl _
  | k + 1, i, j => by
    have := fl_le (n := n) (f := f) k i j
    unfold flF fM
    omega
theorem fl_tri {n : Nat} {f : Nat → Nat → Int} (h : Nn n f) : ∀ k, k ≤ n → ∀ m, m < k → ∀ i j, i < n → j < n → flF k f i j ≤ flF k f i m + flF k f m j
  | 0, _, m, hm, _, _, _, _ => by omega
  | k + 1, hk, m, hm, i, j, hi, hj => by
    have ih := fl_tri h k (by omega)
    have nn := nn_fl h k (by omega)
    unfold flF fM
    by_cases hmk : m = k
    · subst hmk
      have d := nn.dg m (by omega)
      omega
    · have hm' : m < k := by omega
      have hmn : m < n := by omega
      have hkn : k < n := by omega
      have a1 := ih m hm' i j hi hj
      have a2 := ih m hm' k j hkn hj
      have a3 := ih m hm' i k hi hkn
      have p1 := nn.pos k m hkn hmn
      have p2 := nn.pos m k hmn hkn
      omega
theorem fl_sym {n : Nat} {f : Nat → Nat → Int} (hs : ∀ i j, i < n → j < n → f i j = f j i) : ∀ k, k ≤ n → ∀ i j, i < n → j < n → flF k f i j = flF k f j i
  | 0, _, i, j, hi, hj => hs i j hi hj
  | k + 1, hk, i, j, hi, hj => by
    have ih := fl_sym hs k (by omega)
    unfold flF fM
    have a1 := ih i j hi hj
    have a2 := ih i k hi (by omega)
    have a3 := ih k j (by omega) hj
    omega
theorem fl_above {n : Nat} {f g : Nat → Nat → Int} (ht : ∀ m i j, m < n → i < n → j < n → g i j ≤ g i m + g m j) (hg : ∀ i j, i < n → j < n → g i j ≤ f i j) : ∀ k, k ≤ n → ∀ i j, i < n → j < n → g i j ≤ flF k f i j
  | 0, _, i, j, hi, hj => hg i j hi hj
  | k + 1, hk, i, j, hi, hj => by
    have ih := fl_above ht hg k (by omega)
    unfold flF fM
    have a1 := ih i j hi hj
    have a2 := ih i k hi (by omega)
    have a3 := ih k j (by omega) hj
    have a4 := ht k i j (by omega) hi hj
    omega
theorem fl_pos {n : Nat} {f : Nat → Nat → Int} (h : Nn n f) (hp : ∀ i j, i < n → j < n → i ≠ j → 0 < f i j) : ∀ k, k ≤ n → ∀ i j, i < n → j < n → i ≠ j → 0 < flF k f i j
  | 0, _, i, j, hi, hj, hij => hp i j hi hj hij
  | k + 1, hk, i, j, hi, hj, hij => by
    have ih := fl_pos h hp k (by omega)
    have nn := nn_fl h k (by omega)
    unfold flF fM
    have a1 := ih i j hi hj hij
    by_cases hik : i = k
    · subst hik
      have d := nn.dg i hi
      omega
    · have a2 := ih i k hi (by omega) hik
      have a3 := nn.pos k j (by omega) hj
      omega
/-! the same in a table -/
def fS (k i : Nat) (T : List (List Int)) (j : Nat) : List (List Int) := set2 T i j (min (at2 T i j) (at2 T i k + at2 T k j))
def fR (k n : Nat) (T : List (List Int)) (i : Nat) : List (List Int) := (List.range n).foldl (fS k i) T
def fT (n : Nat) (T : List (List Int)) (k : Nat) : List (List Int) := (List.range n).foldl (fR k n) T
def floyd (n : Nat) (T : List (List Int)) : List (List Int) := (List.range n).foldl (fT n) T
theorem foldl_succ {α : Type} (f : α → Nat → α) (a : α) (m : Nat) : (List.range (m + 1)).foldl f a = f ((List.range m).foldl f a) m := by
  rw [List.range_succ, List.foldl_append]
  rfl
theorem fS_row {n k i : Nat} {T : List (List Int)} (h : Sq n T) (hk : k < n) (hi : i < n) (hd : at2 T k k = 0) : ∀ m, m ≤ n → Sq n ((List.range m).foldl (fS k i) T) ∧ ∀ a b, a < n → b < n → at2 ((List.range m).foldl (fS k i) T) a b = if a = i ∧ b < m then min (at2 T a b) (at2 T a k + at2 T k b) else at2 T a b
  | 0, _ => ⟨h, fun a b _ _ => by simp⟩
  | m + 1, hm => by
    obtain ⟨sq, at'⟩ := fS_row h hk hi hd m (by omega)
    rw [foldl_succ]
    refine ⟨sq_set2 sq i m _, fun a b ha hb => ?_⟩
    show at2 (set2 _ i m (min (at2 ((List.range m).foldl (fS k i) T) i m) (at2 ((List.range m).foldl (fS k i) T) i k + at2 ((List.range m).foldl (fS k i) T) k m))) a b = _
    rw [at_set2 sq hi (by omega)]
    have e1 := at' i m hi (by omega)
    have e2 := at' i k hi hk
    have e3 := at' k m hk (by omega)
    have e4 := at' a b ha hb
    rw [e1, e2, e3, e4]
    by_cases hai : a = i
    · subst hai
      by_cases hbm : b = m
      · subst hbm
        simp only [true_and, Nat.lt_irrefl, and_false, if_false, if_true, Nat.lt_succ_self]
        have : (if k < b then min (at2 T a k) (at2 T a k + at2 T k k) else at2 T a k) = at2 T a k := by split <;> omega
        rw [this]
      · have hc : (b < m + 1) = (b < m) := by
          apply propext; omega
        simp [hbm, hc]
    · simp [hai]
theorem fR_tab {n k : Nat} {T : List (List Int)} (h : Sq n T) (hk : k < n) (hd : at2 T k k = 0) : ∀ m, m ≤ n → Sq n ((List.range m).foldl (fR k n) T) ∧ ∀ a b, a < n → b < n → at2 ((List.range m).foldl (fR k n) T) a b = if a < m then min (at2 T a b) (at2 T a k + at2 T k b) else at2 T a b
  | 0, _ => ⟨h, fun a b _ _ => by simp⟩
  | m + 1, hm => by
    obtain ⟨sq, at'⟩ := fR_tab h hk hd m (by omega)
    rw [foldl_succ]
    have hkk : at2 ((List.range m).foldl (fR k n) T) k k = 0 := by
      rw [at' k k hk hk]
      split <;> omega
    obtain ⟨sq2, at2'⟩ := fS_row sq hk (show m < n by omega) hkk n (Nat.le_refl n)
    refine ⟨sq2, fun a b ha hb => ?_⟩
    show at2 (List.foldl (fS k m) ((List.range m).foldl (fR k n) T) (List.range n)) a b = _
    rw [at2' a b ha hb]
    have e1 := at' a b ha hb
    have e2 := at' a k ha hk
    have e3 := at' k b hk hb
    rw [e1, e2, e3]
    by_cases ham : a = m
    · subst ham
      simp only [hb, and_self, if_true, Nat.lt_irrefl, if_false, Nat.lt_succ_self]
      have : (if k < a then min (at2 T k b) (at2 T k k + at2 T k b) else at2 T k b) = at2 T k b := by split <;> omega
      rw [this]
    · have hc : (a < m + 1) = (a < m) := by apply propext; omega
      simp [ham, hc]
theorem fT_tab {n : Nat} {T : List (List Int)} (h : Sq n T) (hn : Nn n (at2 T)) : ∀ m, m ≤ n → Sq n ((List.range m).foldl (fT n) T) ∧ ∀ a b, a < n → b < n → at2 ((List.range m).foldl (fT n) T) a b = flF m (at2 T) a b
  | 0, _ => ⟨h, fun a b _ _ => rfl⟩
  | m + 1, hm => by
    obtain ⟨sq, at'⟩ := fT_tab h hn m (by omega)
    rw [foldl_succ]
    have hmn : m < n := by omega
    obtain ⟨sq2, at2'⟩ := fR_tab sq hmn (by rw [at' m m hmn hmn]; exact (nn_fl hn m (by omega)).dg m hmn) n (Nat.le_refl n)
    refine ⟨sq2, fun a b ha hb => ?_⟩
    show at2 (List.foldl (fR m n) ((List.range m).foldl (fT n) T) (List.range n)) a b = _
    rw [at2' a b ha hb, if_pos ha, at' a b ha hb, at' a m ha hmn, at' m b hmn hb]
    rfl
theorem floyd_at {n : Nat} {T : List (List Int)} (h : Sq n T) (hn : Nn n (at2 T)) : Sq n (floyd n T) ∧ ∀ a b, a < n → b < n → at2 (floyd n T) a b = flF n (at2 T) a b := fT_tab h hn n (Nat.le_refl n)
theorem sq_ext {A B : List (List Int)} {n : Nat} (hA : Sq n A) (hB : Sq n B) (h : ∀ i, i < n → ∀ j, j < n → at2 A i j = at2 B i j) : A = B := by
  have l1 := hA.len
  have l2 := hB.len
  refine List.ext_getElem (by omega) fun i h1 h2 => ?_
  have a1 := hA.row i (by omega)
  have b1 := hB.row i (by omega)
  have ea : A.getD i [] = A[i] := by simp [List.getD, h1]
  have eb : B.getD i [] = B[i] := by simp [List.getD, h2]
  rw [ea] at a1
  rw [eb] at b1
  refine List.ext_getElem (by omega) fun j h3 h4 => ?_
  have := h i (by omega) j (by omega)
  unfold at2 at this
  rw [ea, eb] at this
  simpa [List.getD, h3, h4] using this
theorem floyd_id {n : Nat} {T : List (List Int)} (h : Sq n T) (hn : Nn n (at2 T)) (ht : ∀ m i j, m < n → i < n → j < n → at2 T i j ≤ at2 T i m + at2 T m j) : floyd n T = T := by
  obtain ⟨s, e⟩ := floyd_at h hn
  refine sq_ext s h fun i hi j hj => ?_
  rw [e i j hi hj]
  refine Int.le_antisymm (fl_le (n := n) n i j) (fl_above ht (fun i j _ _ => Int.le_refl _) n (Nat.le_refl n) i j hi hj)
end Fx
end

section
set_option linter.all false
set_option maxRecDepth 10000
namespace Fx
def tlD : D → List D
  | .tup r => r
  | _ => []
def ltD : D → D
  | .lst r => .tup r
  | d => d
theorem oom_len {n : Nat} {T : List (List Int)} (h : T.length = n) : (oom T).length = n := by unfold oom; rw [List.length_map, h]
theorem ti_rows (T : List (List Int)) : ((T.map ti).map tlD) = oom T := by
  unfold oom ti
  rw [List.map_map]
  rfl
theorem oom_rows (T : List (List Int)) : (((oom T).map D.lst).map ltD) = T.map ti := by
  unfold oom ti
  simp [ltD, Function.comp_def]
@[simp] theorem min2_int (a b : Int) : oMin2 (.v (.int a)) (.v (.int b)) = some (.v (.int (min a b))) := by
  unfold oMin2
  dsimp only
  congr 3
  rw [Int.min_def]
  split <;> split <;> omega
@[simp] theorem max2_int (a b : Int) : oMax2 (.v (.int a)) (.v (.int b)) = some (.v (.int (max a b))) := by
  unfold oMax2
  dsimp only
  congr 3
  rw [Int.max_def]
  split <;> split <;> omega
theorem sq_fold {n : Nat} {f : List (List Int) → Nat → List (List Int)} (hf : ∀ T x, Sq n T → Sq n (f T x)) : ∀ (l : List Nat) (T : List (List Int)), Sq n T → Sq n (l.foldl f T)
  | [], _, h => h
  | a :: l, T, h => sq_fold hf l _ (hf T a h)
theorem sq_row {n : Nat} {T : List (List Int)} (h : Sq n T) (k i m : Nat) : Sq n ((List.range m).foldl (fS k i) T) := sq_fold (fun T x h => sq_set2 h _ _ _) _ _ h
theorem sq_rows {n : Nat} {T : List (List Int)} (h : Sq n T) (k m : Nat) : Sq n ((List.range m).foldl (fR k n) T) := sq_fold (fun T x h => sq_row h k x n) _ _ h
theorem sq_tabs {n : Nat} {T : List (List Int)} (h : Sq n T) (m : Nat) : Sq n ((List.range m).foldl (fT n) T) := sq_fold (fun T x h => sq_rows h x n) _ _ h
theorem lsh_j {n : Nat} {T0 T : List (List Int)}  (h : Sq n T) (hn : n ≤ 1000) {k i : Nat} (hk : k < n) (hi : i < n) (rj : Option Vl) : ∃ r, sFor (iR1 (eV 1)) (gN 5) (sTo (gIx2 2 (nV 4) (nV 5)) (e2 oMin2 (eIxPP 2 (nV 4) (nV 5)) (e2 oAdd (eIxPP 2 (nV 4) (nV 3)) (eIxPP 2 (nV 3) (nV 5))))) [some (.v (tt T0)), some (.v (.int (n : Int))), some (.oo (oom T)), (some (.v (.int (k : Int)))), (some (.v (.int (i : Int)))), rj, none] = .nxt [some (.v (tt T0)), some (.v (.int (n : Int))), some (.oo (oom (fR k n T i))), (some (.v (.int (k : Int)))), (some (.v (.int (i : Int)))), r, none] := by
  obtain ⟨e', h1, r, rfl⟩ := forGoR (g := gN 5) (b := sTo (gIx2 2 (nV 4) (nV 5)) (e2 oMin2 (eIxPP 2 (nV 4) (nV 5)) (e2 oAdd (eIxPP 2 (nV 4) (nV 3)) (eIxPP 2 (nV 3) (nV 5)))))
    (fun m e => ∃ r, e = [some (.v (tt T0)), some (.v (.int (n : Int))), some (.oo (oom ((List.range m).foldl (fS k i) T))), (some (.v (.int (k : Int)))), (some (.v (.int (i : Int)))), r, none]) n n 0 [some (.v (tt T0)), some (.v (.int (n : Int))), some (.oo (oom T)), (some (.v (.int (k : Int)))), (some (.v (.int (i : Int)))), rj, none] (by omega) ⟨rj, rfl⟩ (by
      rintro m e hm ⟨r, rfl⟩
      have sq := sq_row h k i m
      refine ⟨_, _, rfl, ?_, some (.v (.int (m : Int))), rfl⟩
      rw [foldl_succ]
      generalize (List.range m).foldl (fS k i) T = U at sq ⊢
      have g1 := eIxPP_ok (k := 2) (f := nV 4) (g := nV 5) (e := [some (.v (tt T0)), some (.v (.int (n : Int))), some (.oo (oom U)), (some (.v (.int (k : Int)))), (some (.v (.int (i : Int)))), (some (.v (.int (m : Int)))), none]) sq rfl rfl rfl hi hm
      have g2 := eIxPP_ok (k := 2) (f := nV 4) (g := nV 3) (e := [some (.v (tt T0)), some (.v (.int (n : Int))), some (.oo (oom U)), (some (.v (.int (k : Int)))), (some (.v (.int (i : Int)))), (some (.v (.int (m : Int)))), none]) sq rfl rfl rfl hi hk
      have g3 := eIxPP_ok (k := 2) (f := nV 3) (g := nV 5) (e := [some (.v (tt T0)), some (.v (.int (n : Int))), some (.oo (oom U)), (some (.v (.int (k : Int)))), (some (.v (.int (i : Int)))), (some (.v (.int (m : Int)))), none]) sq rfl rfl rfl hk hm
      have g4 := gIx2_ok (k := 2) (f := nV 4) (g := nV 5) (e := [some (.v (tt T0)), some (.v (.int (n : Int))), some (.oo (oom U)), (some (.v (.int (k : Int)))), (some (.v (.int (i : Int)))), (some (.v (.int (m : Int)))), none]) sq rfl rfl rfl hi hm (min (at2 U i m) (at2 U i k + at2 U k m))
      simp only [List.set_cons_succ, List.set_cons_zero] at g4
      simp [g1, g2, g3, g4, -s_gIx2, -s_eIxPP, fS])
  rw [← rng_range'] at h1
  refine ⟨r, ?_⟩
  rw [s_sFor, iR1_nat (n := n) (e' := [some (.v (tt T0)), some (.v (.int (n : Int))), some (.oo (oom T)), (some (.v (.int (k : Int)))), (some (.v (.int (i : Int)))), rj, none]) (by simp [oom_len h.len]) (by omega)]
  exact h1
theorem lsh_i {n : Nat} {T0 T : List (List Int)}  (h : Sq n T) (hn : n ≤ 1000) {k : Nat} (hk : k < n) (ri rj : Option Vl) : ∃ r s, sFor (iR1 (eV 1)) (gN 4) (sFor (iR1 (eV 1)) (gN 5) (sTo (gIx2 2 (nV 4) (nV 5)) (e2 oMin2 (eIxPP 2 (nV 4) (nV 5)) (e2 oAdd (eIxPP 2 (nV 4) (nV 3)) (eIxPP 2 (nV 3) (nV 5)))))) [some (.v (tt T0)), some (.v (.int (n : Int))), some (.oo (oom T)), (some (.v (.int (k : Int)))), ri, rj, none] = .nxt [some (.v (tt T0)), some (.v (.int (n : Int))), some (.oo (oom (fT n T k))), (some (.v (.int (k : Int)))), r, s, none] := by
  obtain ⟨e', h1, r, s, rfl⟩ := forGoR (g := gN 4) (b := sFor (iR1 (eV 1)) (gN 5) (sTo (gIx2 2 (nV 4) (nV 5)) (e2 oMin2 (eIxPP 2 (nV 4) (nV 5)) (e2 oAdd (eIxPP 2 (nV 4) (nV 3)) (eIxPP 2 (nV 3) (nV 5))))))
    (fun m e => ∃ r s, e = [some (.v (tt T0)), some (.v (.int (n : Int))), some (.oo (oom ((List.range m).foldl (fR k n) T))), (some (.v (.int (k : Int)))), r, s, none]) n n 0 [some (.v (tt T0)), some (.v (.int (n : Int))), some (.oo (oom T)), (some (.v (.int (k : Int)))), ri, rj, none] (by omega) ⟨ri, rj, rfl⟩ (by
      rintro m e hm ⟨r, s, rfl⟩
      obtain ⟨s', hs⟩ := lsh_j (T0 := T0) (sq_rows h k m) hn hk hm s
      refine ⟨_, _, rfl, ?_, some (.v (.int (m : Int))), s', rfl⟩
      rw [foldl_succ]
      exact hs)
  rw [← rng_range'] at h1
  refine ⟨r, s, ?_⟩
  rw [s_sFor, iR1_nat (n := n) (e' := [some (.v (tt T0)), some (.v (.int (n : Int))), some (.oo (oom T)), (some (.v (.int (k : Int)))), ri, rj, none]) (by simp [oom_len h.len]) (by omega)]
  exact h1
theorem lsh_k {n : Nat} {T0 T : List (List Int)}  (h : Sq n T) (hn : n ≤ 1000) (rk ri rj : Option Vl) : ∃ q r s, sFor (iR1 (eV 1)) (gN 3) (sFor (iR1 (eV 1)) (gN 4) (sFor (iR1 (eV 1)) (gN 5) (sTo (gIx2 2 (nV 4) (nV 5)) (e2 oMin2 (eIxPP 2 (nV 4) (nV 5)) (e2 oAdd (eIxPP 2 (nV 4) (nV 3)) (eIxPP 2 (nV 3) (nV 5))))))) [some (.v (tt T0)), some (.v (.int (n : Int))), some (.oo (oom T)), rk, ri, rj, none] = .nxt [some (.v (tt T0)), some (.v (.int (n : Int))), some (.oo (oom (floyd n T))), q, r, s, none] := by
  obtain ⟨e', h1, q, r, s, rfl⟩ := forGoR (g := gN 3) (b := sFor (iR1 (eV 1)) (gN 4) (sFor (iR1 (eV 1)) (gN 5) (sTo (gIx2 2 (nV 4) (nV 5)) (e2 oMin2 (eIxPP 2 (nV 4) (nV 5)) (e2 oAdd (eIxPP 2 (nV 4) (nV 3)) (eIxPP 2 (nV 3) (nV 5)))))))
    (fun m e => ∃ q r s, e = [some (.v (tt T0)), some (.v (.int (n : Int))), some (.oo (oom ((List.range m).foldl (fT n) T))), q, r, s, none]) n n 0 [some (.v (tt T0)), some (.v (.int (n : Int))), some (.oo (oom T)), rk, ri, rj, none] (by omega) ⟨rk, ri, rj, rfl⟩ (by
      rintro m e hm ⟨q, r, s, rfl⟩
      obtain ⟨r', s', hs⟩ := lsh_i (T0 := T0) (sq_tabs h m) hn hm r s
      refine ⟨_, _, rfl, ?_, some (.v (.int (m : Int))), r', s', rfl⟩
      rw [foldl_succ]
      exact hs)
  rw [← rng_range'] at h1
  refine ⟨q, r, s, ?_⟩
  rw [s_sFor, iR1_nat (n := n) (e' := [some (.v (tt T0)), some (.v (.int (n : Int))), some (.oo (oom T)), rk, ri, rj, none]) (by simp [oom_len h.len]) (by omega)]
  exact h1
theorem lshort_ok {n : Nat} {T : List (List Int)} (h : Sq n T) (hn : n ≤ 1000) : G.F__law_short [.v (tt T)] = .ok (.v (tt (floyd n T))) [] := by
  have hU : Sq n (floyd n T) := sq_tabs h n
  have hl := h.len
  have hc := eCompO1 (k := 6) (it := iL (eV 0)) (x := e1 oList (eP 6)) (e := [some (.v (tt T)), some (.v (.int (n : Int))), none, none, none, none, none]) (e1 := [some (.v (tt T)), some (.v (.int (n : Int))), none, none, none, none, none]) (l := T.map ti) tlD (by simp) (by rw [List.length_map, h.len]; unfold lim; omega) rfl (fun d hd => by
    obtain ⟨r, _, rfl⟩ := List.mem_map.mp hd
    simp [oList, ti, tlD])
  rw [ti_rows] at hc
  obtain ⟨q, r, s, hf⟩ := lsh_k (T0 := T) h hn none none none
  have fin := eCompA (k := 6) (it := iL (eV 2)) (x := e1 oTuple (eP 6)) (e := [some (.v (tt T)), some (.v (.int (n : Int))), some (.oo (oom (floyd n T))), q, r, s, none]) (e1 := [some (.v (tt T)), some (.v (.int (n : Int))), some (.v (.lst ((oom (floyd n T)).map .lst))), q, r, s, none]) (l := (oom (floyd n T)).map .lst)
    ltD (by simp) (by rw [List.length_map, oom_len hU.len]; unfold lim; omega) rfl (fun d hd => by
      obtain ⟨r, _, rfl⟩ := List.mem_map.mp hd
      exact ⟨.v (.tup r), by simp, rfl⟩)
  rw [oom_rows] at fin
  unfold G.F__law_short G.c__law_short
  generalize eCompO [6] (iL (eV 0)) (gN 6) tYes (e1 oList (eP 6)) = Y at hc ⊢
  generalize eComp [6] (iL (eV 2)) (gN 6) tYes (e1 oTuple (eP 6)) = Z at fin ⊢
  generalize sFor (iR1 (eV 1)) (gN 3) (sFor (iR1 (eV 1)) (gN 4) (sFor (iR1 (eV 1)) (gN 5) (sTo (gIx2 2 (nV 4) (nV 5)) (e2 oMin2 (eIxPP 2 (nV 4) (nV 5)) (e2 oAdd (eIxPP 2 (nV 4) (nV 3)) (eIxPP 2 (nV 3) (nV 5))))))) = U at hf ⊢
  simp [hl, hc, hf, fin]
  rfl
end Fx
end

section
set_option linter.all false
set_option maxRecDepth 10000
namespace Fx
/-! least greatest steps -/
def fMX (k : Nat) (f : Nat → Nat → Int) : Nat → Nat → Int := fun i j => min (f i j) (max (f i k) (f k j))
def flFX : Nat → (Nat → Nat → Int) → (Nat → Nat → Int)
  | 0, f => f
  | k + 1, f => fMX k (flFX k f)
theorem nn_fMX {n k : Nat} {f : Nat → Nat → Int} (h : Nn n f) (hk : k < n) : Nn n (fMX k f) := by
  refine ⟨fun i j hi hj => ?_, fun i hi => ?_⟩
  · unfold fMX
    have h1 := h.pos i j hi hj
    have h2 := h.pos i k hi hk
    have h3 := h.pos k j hk hj
    omega
  · unfold fMX
    have h1 := h.dg i hi
    have h2 := h.pos i k hi hk
    have h3 := h.pos k i hk hi
    omega
theorem nn_flX {n : Nat} {f : Nat → Nat → Int} (h : Nn n f) : ∀ k, k ≤ n → Nn n (flFX k f)
  | 0, _ => h
  | k + 1, hk => nn_fMX (nn_flX h k (by omega)) (by omega)
theorem fl_leX {n : Nat} {f : Nat → Nat → Int} : ∀ k i j, flFX k f i j ≤ f i j
  | 0, i, j => Int.le_refl _
  | k + 1, i, j => by
    have := fl_leX (n := n) (f := f) k i j
    unfold flFX fMX
    omega
theorem fl_triX {n : Nat} {f : Nat → Nat → Int} (h : Nn n f) : ∀ k, k ≤ n → ∀ m, m < k → ∀ i j, i < n → j < n → flFX k f i j ≤ max (flFX k f i m) (flFX k f m j)
  | 0, _, m, hm, _, _, _, _ => by omega
  | k + 1, hk, m, hm, i, j, hi, hj => by
    have ih := fl_triX h k (by omega)
    have nn := nn_flX h k (by omega)
    unfold flFX fMX
    by_cases hmk : m = k
    · subst hmk
      have d := nn.dg m (by omega)
      omega
    · have hm' : m < k := by omega
      have hmn : m < n := by omega
      have hkn : k < n := by omega
      have a1 := ih m hm' i j hi hj
      have a2 := ih m hm' k j hkn hj
      have a3 := ih m hm' i k hi hkn
      have p1 := nn.pos k m hkn hmn
      have p2 := nn.pos m k hmn hkn
      omega
theorem fl_symX {n : Nat} {f : Nat → Nat → Int} (hs : ∀ i j, i < n → j < n → f i j = f j i) : ∀ k, k ≤ n → ∀ i j, i < n → j < n → flFX k f i j = flFX k f j i
  | 0, _, i, j, hi, hj => hs i j hi hj
  | k + 1, hk, i, j, hi, hj => by
    have ih := fl_symX hs k (by omega)
    unfold flFX fMX
    have a1 := ih i j hi hj
    have a2 := ih i k hi (by omega)
    have a3 := ih k j (by omega) hj
    omega
theorem fl_aboveX {n : Nat} {f g : Nat → Nat → Int} (ht : ∀ m i j, m < n → i < n → j < n → g i j ≤ max (g i m) (g m j)) (hg : ∀ i j, i < n → j < n → g i j ≤ f i j) : ∀ k, k ≤ n → ∀ i j, i < n → j < n → g i j ≤ flFX k f i j
  | 0, _, i, j, hi, hj => hg i j hi hj
  | k + 1, hk, i, j, hi, hj => by
    have ih := fl_aboveX ht hg k (by omega)
    unfold flFX fMX
    have a1 := ih i j hi hj
    have a2 := ih i k hi (by omega)
    have a3 := ih k j (by omega) hj
    have a4 := ht k i j (by omega) hi hj
    omega
theorem fl_posX {n : Nat} {f : Nat → Nat → Int} (h : Nn n f) (hp : ∀ i j, i < n → j < n → i ≠ j → 0 < f i j) : ∀ k, k ≤ n → ∀ i j, i < n → j < n → i ≠ j → 0 < flFX k f i j
  | 0, _, i, j, hi, hj, hij => hp i j hi hj hij
  | k + 1, hk, i, j, hi, hj, hij => by
    have ih := fl_posX h hp k (by omega)
    have nn := nn_flX h k (by omega)
    unfold flFX fMX
    have a1 := ih i j hi hj hij
    by_cases hik : i = k
    · subst hik
      have d := nn.dg i hi
      omega
    · have a2 := ih i k hi (by omega) hik
      have a3 := nn.pos k j (by omega) hj
      omega
/-! the same in a table -/
def fSX (k i : Nat) (T : List (List Int)) (j : Nat) : List (List Int) := set2 T i j (min (at2 T i j) (max (at2 T i k) (at2 T k j)))
def fRX (k n : Nat) (T : List (List Int)) (i : Nat) : List (List Int) := (List.range n).foldl (fSX k i) T
def fTX (n : Nat) (T : List (List Int)) (k : Nat) : List (List Int) := (List.range n).foldl (fRX k n) T
def floydX (n : Nat) (T : List (List Int)) : List (List Int) := (List.range n).foldl (fTX n) T
theorem fS_rowX {n k i : Nat} {T : List (List Int)} (h : Sq n T) (hk : k < n) (hi : i < n) (hd : at2 T k k = 0) : ∀ m, m ≤ n → Sq n ((List.range m).foldl (fSX k i) T) ∧ ∀ a b, a < n → b < n → at2 ((List.range m).foldl (fSX k i) T) a b = if a = i ∧ b < m then min (at2 T a b) (max (at2 T a k) (at2 T k b)) else at2 T a b
  | 0, _ => ⟨h, fun a b _ _ => by simp⟩
  | m + 1, hm => by
    obtain ⟨sq, at'⟩ := fS_rowX h hk hi hd m (by omega)
    rw [foldl_succ]
    refine ⟨sq_set2 sq i m _, fun a b ha hb => ?_⟩
    show at2 (set2 _ i m (min (at2 ((List.range m).foldl (fSX k i) T) i m) (max (at2 ((List.range m).foldl (fSX k i) T) i k) (at2 ((List.range m).foldl (fSX k i) T) k m)))) a b = _
    rw [at_set2 sq hi (by omega)]
    have e1 := at' i m hi (by omega)
    have e2 := at' i k hi hk
    have e3 := at' k m hk (by omega)
    have e4 := at' a b ha hb
    rw [e1, e2, e3, e4]
    by_cases hai : a = i
    · subst hai
      by_cases hbm : b = m
      · subst hbm
        simp only [true_and, Nat.lt_irrefl, and_false, if_false, if_true, Nat.lt_succ_self]
        have : (if k < b then min (at2 T a k) (max (at2 T a k) (at2 T k k)) else at2 T a k) = at2 T a k := by split <;> omega
        rw [this]
      · have hc : (b < m + 1) = (b < m) := by
          apply propext; omega
        simp [hbm, hc]
    · simp [hai]
theorem fR_tabX {n k : Nat} {T : List (List Int)} (h : Sq n T) (hk : k < n) (hd : at2 T k k = 0) : ∀ m, m ≤ n → Sq n ((List.range m).foldl (fRX k n) T) ∧ ∀ a b, a < n → b < n → at2 ((List.range m).foldl (fRX k n) T) a b = if a < m then min (at2 T a b) (max (at2 T a k) (at2 T k b)) else at2 T a b
  | 0, _ => ⟨h, fun a b _ _ => by simp⟩
  | m + 1, hm => by
    obtain ⟨sq, at'⟩ := fR_tabX h hk hd m (by omega)
    rw [foldl_succ]
    have hkk : at2 ((List.range m).foldl (fRX k n) T) k k = 0 := by
      rw [at' k k hk hk]
      split <;> omega
    obtain ⟨sq2, at2'⟩ := fS_rowX sq hk (show m < n by omega) hkk n (Nat.le_refl n)
    refine ⟨sq2, fun a b ha hb => ?_⟩
    show at2 (List.foldl (fSX k m) ((List.range m).foldl (fRX k n) T) (List.range n)) a b = _
    rw [at2' a b ha hb]
    have e1 := at' a b ha hb
    have e2 := at' a k ha hk
    have e3 := at' k b hk hb
    rw [e1, e2, e3]
    by_cases ham : a = m
    · subst ham
      simp only [hb, and_self, if_true, Nat.lt_irrefl, if_false, Nat.lt_succ_self]
      have : (if k < a then min (at2 T k b) (max (at2 T k k) (at2 T k b)) else at2 T k b) = at2 T k b := by split <;> omega
      rw [this]
    · have hc : (a < m + 1) = (a < m) := by apply propext; omega
      simp [ham, hc]
theorem fT_tabX {n : Nat} {T : List (List Int)} (h : Sq n T) (hn : Nn n (at2 T)) : ∀ m, m ≤ n → Sq n ((List.range m).foldl (fTX n) T) ∧ ∀ a b, a < n → b < n → at2 ((List.range m).foldl (fTX n) T) a b = flFX m (at2 T) a b
  | 0, _ => ⟨h, fun a b _ _ => rfl⟩
  | m + 1, hm => by
    obtain ⟨sq, at'⟩ := fT_tabX h hn m (by omega)
    rw [foldl_succ]
    have hmn : m < n := by omega
    obtain ⟨sq2, at2'⟩ := fR_tabX sq hmn (by rw [at' m m hmn hmn]; exact (nn_flX hn m (by omega)).dg m hmn) n (Nat.le_refl n)
    refine ⟨sq2, fun a b ha hb => ?_⟩
    show at2 (List.foldl (fRX m n) ((List.range m).foldl (fTX n) T) (List.range n)) a b = _
    rw [at2' a b ha hb, if_pos ha, at' a b ha hb, at' a m ha hmn, at' m b hmn hb]
    rfl
theorem floyd_atX {n : Nat} {T : List (List Int)} (h : Sq n T) (hn : Nn n (at2 T)) : Sq n (floydX n T) ∧ ∀ a b, a < n → b < n → at2 (floydX n T) a b = flFX n (at2 T) a b := fT_tabX h hn n (Nat.le_refl n)
theorem floyd_idX {n : Nat} {T : List (List Int)} (h : Sq n T) (hn : Nn n (at2 T)) (ht : ∀ m i j, m < n → i < n → j < n → at2 T i j ≤ max (at2 T i m) (at2 T m j)) : floydX n T = T := by
  obtain ⟨s, e⟩ := floyd_atX h hn
  refine sq_ext s h fun i hi j hj => ?_
  rw [e i j hi hj]
  refine Int.le_antisymm (fl_leX (n := n) n i j) (fl_aboveX ht (fun i j _ _ => Int.le_refl _) n (Nat.le_refl n) i j hi hj)
end Fx
end

section
set_option linter.all false
set_option maxRecDepth 10000
namespace Fx
/-! trees and the ways along them -/
abbrev Edg := Nat × Nat × Int
def Ed (E : List Edg) (a b : Nat) (w : Int) : Prop := (a, b, w) ∈ E ∨ (b, a, w) ∈ E
/-- the points V, the edges E, the ways D -/
structure Tr (V : List Nat) (E : List Edg) (D : Nat → Nat → Int) (top : Int) : Prop where
  sy : ∀ x ∈ V, ∀ y ∈ V, D x y = D y x
  dg : ∀ x ∈ V, D x x = 0
  ps : ∀ x ∈ V, ∀ y ∈ V, x ≠ y → 0 < D x y
  tr : ∀ x ∈ V, ∀ y ∈ V, ∀ z ∈ V, D x z ≤ D x y + D y z
  bd : ∀ x ∈ V, ∀ y ∈ V, D x y ≤ top
  ed : ∀ a b w, Ed E a b w → a ∈ V ∧ b ∈ V ∧ D a b = w ∧ 0 < w
  di : ∀ a b w, Ed E a b w → ∀ i ∈ V, D i b = D i a + w ∨ D i a = D i b + w
  sp : ∀ a b w, Ed E a b w → ∀ i ∈ V, ∀ y ∈ V, D i b = D i a + w → D y a = D y b + w → D i y = D i a + w + D b y
  fp : ∀ x ∈ V, ∀ y ∈ V, ∀ z ∈ V, ∀ u ∈ V, D x y + D z u ≤ max (D x z + D y u) (D x u + D y z)
  cn : ∀ S : Nat → Prop, (∃ x ∈ V, S x) → (∃ y ∈ V, ¬ S y) → ∃ a b w, Ed E a b w ∧ S a ∧ ¬ S b
theorem Tr.of_mem {V : List Nat} {E E' : List Edg} {D : Nat → Nat → Int} {top : Int} (h : Tr V E D top) (he : ∀ e, e ∈ E' ↔ e ∈ E) : Tr V E' D top := by
  have k : ∀ a b w, Ed E' a b w ↔ Ed E a b w := fun a b w => by unfold Ed; rw [he, he]
  refine ⟨h.sy, h.dg, h.ps, h.tr, h.bd, fun a b w q => h.ed a b w ((k a b w).mp q), fun a b w q => h.di a b w ((k a b w).mp q), fun a b w q => h.sp a b w ((k a b w).mp q), h.fp, fun S h1 h2 => ?_⟩
  obtain ⟨a, b, w, q, z⟩ := h.cn S h1 h2
  exact ⟨a, b, w, (k a b w).mpr q, z⟩
theorem tr_one (v : Nat) : Tr [v] [] (fun _ _ => 0) 0 := by
  refine ⟨fun _ _ _ _ => rfl, fun _ _ => rfl, fun x hx y hy h => ?_, fun _ _ _ _ _ _ => by omega, fun _ _ _ _ => Int.le_refl _, fun a b w h => ?_, fun a b w h => ?_, fun a b w h => ?_, fun _ _ _ _ _ _ _ _ => by omega, fun S h1 h2 => ?_⟩
  · simp at hx hy; omega
  · unfold Ed at h; simp at h
  · unfold Ed at h; simp at h
  · unfold Ed at h; simp at h
  · obtain ⟨x, hx, sx⟩ := h1
    obtain ⟨y, hy, sy⟩ := h2
    simp at hx hy
    subst hx hy
    exact absurd sx sy
/-- a leaf more -/
def leaf (D : Nat → Nat → Int) (a b : Nat) (w : Int) : Nat → Nat → Int := fun x y => if x = b then (if y = b then 0 else D a y + w) else if y = b then D x a + w else D x y
theorem tr_leaf {V : List Nat} {E : List Edg} {D : Nat → Nat → Int} {top : Int} (h : Tr V E D top) {a b : Nat} {w t : Int} (ha : a ∈ V) (hb : b ∉ V) (h0 : 0 < w) (ht : w ≤ t) (e : Edg) (he : e = (a, b, w) ∨ e = (b, a, w)) (htop : 0 ≤ top) : Tr (V ++ [b]) (E ++ [e]) (leaf D a b w) (top + t) := by
  have ne : ∀ x ∈ V, x ≠ b := fun x hx q => hb (q ▸ hx)
  have k1 : ∀ x ∈ V, ∀ y ∈ V, leaf D a b w x y = D x y := fun x hx y hy => by unfold leaf; rw [if_neg (ne x hx), if_neg (ne y hy)]
  have k2 : ∀ y ∈ V, leaf D a b w b y = D a y + w := fun y hy => by unfold leaf; rw [if_pos rfl, if_neg (ne y hy)]
  have k3 : ∀ x ∈ V, leaf D a b w x b = D x a + w := fun x hx => by unfold leaf; rw [if_neg (ne x hx), if_pos rfl]
  have k4 : leaf D a b w b b = 0 := by unfold leaf; rw [if_pos rfl, if_pos rfl]
  have mem : ∀ x, x ∈ V ++ [b] ↔ x ∈ V ∨ x = b := fun x => by simp
  have aa := h.dg a ha
  have edc : ∀ p q u, Ed (E ++ [e]) p q u → Ed E p q u ∨ (u = w ∧ ((p = a ∧ q = b) ∨ (p = b ∧ q = a))) := fun p q u hq => by
    unfold Ed at hq ⊢
    simp only [List.mem_append, List.mem_singleton] at hq
    rcases hq with (hq | hq) | (hq | hq)
    · exact .inl (.inl hq)
    · rcases he with he | he <;> (rw [he] at hq; cases hq; simp)
    · exact .inl (.inr hq)
    · rcases he with he | he <;> (rw [he] at hq; cases hq; simp)
  have newE : Ed (E ++ [e]) a b w ∧ Ed (E ++ [e]) b a w := by
    unfold Ed
    simp only [List.mem_append, List.mem_singleton]
    rcases he with he | he <;> simp [he]
  have oldE : ∀ p q u, Ed E p q u → Ed (E ++ [e]) p q u := fun p q u hq => by
    unfold Ed at hq ⊢
    simp only [List.mem_append]
    exact hq.imp .inl .inl
  refine ⟨?_, ?_, ?_, ?_, ?_, ?_, ?_, ?_, ?_, ?_⟩
  · intro x hx y hy
    rcases (mem x).mp hx with hx' | rfl <;> rcases (mem y).mp hy with hy' | rfl
    · rw [k1 x hx' y hy', k1 y hy' x hx']; exact h.sy x hx' y hy'
    · rw [k3 x hx', k2 x hx', h.sy x hx' a ha]
    · rw [k2 y hy', k3 y hy', h.sy a ha y hy']
    · rfl
  · intro x hx
    rcases (mem x).mp hx with hx' | rfl
    · rw [k1 x hx' x hx']; exact h.dg x hx'
    · exact k4
  · intro x hx y hy hxy
    rcases (mem x).mp hx with hx' | rfl <;> rcases (mem y).mp hy with hy' | rfl
    · rw [k1 x hx' y hy']; exact h.ps x hx' y hy' hxy
    · rw [k3 x hx']
      by_cases q : x = a
      · subst q; omega
      · have := h.ps x hx' a ha q; omega
    · rw [k2 y hy']
      by_cases q : a = y
      · subst q; omega
      · have := h.ps a ha y hy' q; omega
    · exact absurd rfl hxy
  · intro x hx y hy z hz
    rcases (mem x).mp hx with hx' | rfl <;> rcases (mem y).mp hy with hy' | rfl <;> rcases (mem z).mp hz with hz' | rfl
    · rw [k1 x hx' z hz', k1 x hx' y hy', k1 y hy' z hz']; exact h.tr x hx' y hy' z hz'
    · rw [k3 x hx', k1 x hx' y hy', k3 y hy']; have := h.tr x hx' y hy' a ha; omega
    · rw [k1 x hx' z hz', k3 x hx', k2 z hz']; have := h.tr x hx' a ha z hz'; omega
    · rw [k3 x hx', k4]; omega
    · rw [k2 z hz', k2 y hy', k1 y hy' z hz']; have := h.tr a ha y hy' z hz'; omega
    · rw [k4, k2 y hy', k3 y hy']
      have := h.sy a ha y hy'
      by_cases q : a = y
      · subst q; omega
      · have := h.ps a ha y hy' q; omega
    · rw [k2 z hz', k4]; omega
    · rw [k4]; omega
  · intro x hx y hy
    rcases (mem x).mp hx with hx' | rfl <;> rcases (mem y).mp hy with hy' | rfl
    · rw [k1 x hx' y hy']; have := h.bd x hx' y hy'; omega
    · rw [k3 x hx']; have := h.bd x hx' a ha; omega
    · rw [k2 y hy']; have := h.bd a ha y hy'; omega
    · rw [k4]; omega
  · intro p q u hq
    rcases edc p q u hq with hq | ⟨rfl, ⟨rfl, rfl⟩ | ⟨rfl, rfl⟩⟩
    · obtain ⟨h1, h2, h3, h4⟩ := h.ed p q u hq
      exact ⟨(mem p).mpr (.inl h1), (mem q).mpr (.inl h2), by rw [k1 p h1 q h2, h3], h4⟩
    · exact ⟨(mem _).mpr (.inl ha), (mem _).mpr (.inr rfl), by rw [k3 _ ha]; omega, h0⟩
    · exact ⟨(mem _).mpr (.inr rfl), (mem _).mpr (.inl ha), by rw [k2 _ ha]; omega, h0⟩
  · intro p q u hq i hi
    rcases edc p q u hq with hq | ⟨rfl, ⟨rfl, rfl⟩ | ⟨rfl, rfl⟩⟩
    · obtain ⟨h1, h2, h3, h4⟩ := h.ed p q u hq
      rcases (mem i).mp hi with hi' | rfl
      · rw [k1 i hi' p h1, k1 i hi' q h2]; exact h.di p q u hq i hi'
      · rw [k2 p h1, k2 q h2]; have := h.di p q u hq a ha; omega
    · rcases (mem i).mp hi with hi' | rfl
      · left; rw [k3 i hi', k1 i hi' _ ha]
      · right; rw [k4, k2 _ ha]; omega
    · rcases (mem i).mp hi with hi' | rfl
      · right; rw [k3 i hi', k1 i hi' _ ha]
      · left; rw [k4, k2 _ ha]; omega
  · intro p q u hq i hi y hy e1 e2
    rcases edc p q u hq with hq | ⟨rfl, ⟨rfl, rfl⟩ | ⟨rfl, rfl⟩⟩
    · obtain ⟨h1, h2, h3, h4⟩ := h.ed p q u hq
      rcases (mem i).mp hi with hi' | rfl <;> rcases (mem y).mp hy with hy' | rfl
      · rw [k1 i hi' q h2, k1 i hi' p h1] at e1
        rw [k1 y hy' p h1, k1 y hy' q h2] at e2
        rw [k1 i hi' y hy', k1 i hi' p h1, k1 q h2 y hy']
        exact h.sp p q u hq i hi' y hy' e1 e2
      · rw [k1 i hi' q h2, k1 i hi' p h1] at e1
        rw [k2 p h1, k2 q h2] at e2
        rw [k3 i hi', k1 i hi' p h1, k3 q h2]
        have := h.sp p q u hq i hi' a ha e1 (by omega)
        omega
      · rw [k2 q h2, k2 p h1] at e1
        rw [k1 y hy' p h1, k1 y hy' q h2] at e2
        rw [k2 y hy', k2 p h1, k1 q h2 y hy']
        have := h.sp p q u hq a ha y hy' (by omega) e2
        omega
      · rw [k2 q h2, k2 p h1] at e1 e2
        omega
    · rcases (mem y).mp hy with hy' | rfl
      · rw [k1 y hy' _ ha, k3 y hy'] at e2
        omega
      · rcases (mem i).mp hi with hi' | rfl
        · rw [k3 i hi', k1 i hi' _ ha, k4]; omega
        · rw [k4, k2 _ ha] at e1; omega
    · rcases (mem i).mp hi with hi' | rfl
      · rw [k1 i hi' _ ha, k3 i hi'] at e1
        omega
      · rcases (mem y).mp hy with hy' | rfl
        · rw [k2 y hy', k4, k1 _ ha y hy']; omega
        · rw [k4, k2 _ ha] at e2; omega
  · intro x hx y hy z hz u hu
    have q0 : ∀ p ∈ V, 0 ≤ D a p := fun p hp => by
      by_cases q : a = p
      · subst q; omega
      · have := h.ps a ha p hp q; omega
    have sy' : ∀ p ∈ V, D p a = D a p := fun p hp => h.sy p hp a ha
    rcases (mem x).mp hx with hx' | rfl <;> rcases (mem y).mp hy with hy' | rfl <;> rcases (mem z).mp hz with hz' | rfl <;> rcases (mem u).mp hu with hu' | rfl
    · simp only [k1 x hx' y hy', k1 z hz' u hu', k1 x hx' z hz', k1 y hy' u hu', k1 x hx' u hu', k1 y hy' z hz']; exact h.fp x hx' y hy' z hz' u hu'
    · simp only [k1 x hx' y hy', k3 z hz', k1 x hx' z hz', k3 y hy', k3 x hx', k1 y hy' z hz']; have := h.fp x hx' y hy' z hz' a ha; omega
    · simp only [k1 x hx' y hy', k2 u hu', k3 x hx', k1 y hy' u hu', k1 x hx' u hu', k3 y hy']; have := h.fp x hx' y hy' a ha u hu'; omega
    · simp only [k1 x hx' y hy', k4, k3 x hx', k3 y hy']; have := h.tr x hx' a ha y hy'; have := sy' y hy'; omega
    · simp only [k3 x hx', k1 z hz' u hu', k1 x hx' z hz', k2 u hu', k1 x hx' u hu', k2 z hz']; have := h.fp x hx' a ha z hz' u hu'; omega
    · simp only [k3 x hx', k3 z hz', k1 x hx' z hz', k4, k2 z hz']; have := sy' z hz'; omega
    · simp only [k3 x hx', k2 u hu', k1 x hx' u hu', k4]; omega
    · simp only [k3 x hx', k4]; omega
    · simp only [k2 y hy', k1 z hz' u hu', k2 z hz', k1 y hy' u hu', k2 u hu', k1 y hy' z hz']; have := h.fp a ha y hy' z hz' u hu'; omega
    · simp only [k2 y hy', k3 z hz', k2 z hz', k3 y hy', k4, k1 y hy' z hz']; have := sy' y hy'; have := sy' z hz'; omega
    · simp only [k2 y hy', k2 u hu', k4, k1 y hy' u hu', k3 y hy']; have := sy' y hy'; omega
    · simp only [k2 y hy', k4, k3 y hy']; have := sy' y hy'; omega
    · simp only [k4, k1 z hz' u hu', k2 z hz', k2 u hu']; have := h.tr z hz' a ha u hu'; have := sy' z hz'; omega
    · simp only [k4, k3 z hz', k2 z hz']; have := sy' z hz'; omega
    · simp only [k4, k2 u hu']; omega
    · simp only [k4]; omega
  · intro S h1 h2
    by_cases c1 : ∃ x ∈ V, S x
    · by_cases c2 : ∃ y ∈ V, ¬ S y
      · obtain ⟨p, q, u, hq, z⟩ := h.cn S c1 c2
        exact ⟨p, q, u, oldE p q u hq, z⟩
      · have all : ∀ y ∈ V, S y := fun y hy => Classical.byContradiction fun z => c2 ⟨y, hy, z⟩
        obtain ⟨y, hy, sy⟩ := h2
        rcases (mem y).mp hy with hy' | rfl
        · exact absurd (all y hy') sy
        · exact ⟨a, _, w, newE.1, all a ha, sy⟩
    · have non : ∀ y ∈ V, ¬ S y := fun y hy z => c1 ⟨y, hy, z⟩
      obtain ⟨y, hy, sy⟩ := h1
      rcases (mem y).mp hy with hy' | rfl
      · exact absurd sy (non y hy')
      · exact ⟨_, a, w, newE.2, sy, non a ha⟩
end Fx
end

section
set_option linter.all false
set_option maxRecDepth 10000
namespace Fx
theorem map_erase {α β : Type} (f : α → β) : ∀ (l : List α) (q : Nat), (l.map f).eraseIdx q = (l.eraseIdx q).map f
  | [], _ => rfl
  | _ :: _, 0 => rfl
  | a :: l, q + 1 => by simp [map_erase f l q]
theorem perm_erase {α : Type} : ∀ (l : List α) (q : Nat) (h : q < l.length), (l[q] :: l.eraseIdx q).Perm l
  | a :: l, 0, _ => List.Perm.refl _
  | a :: l, q + 1, h => by
    simp only [List.getElem_cons_succ, List.eraseIdx_cons_succ]
    exact (List.Perm.swap a _ _).trans ((perm_erase l q (by simpa using h)).cons a)
theorem shuffled_spec (s : Rd) (n : Nat) (hn : n ≤ 1000) : ∃ o s', (o : List Nat).Perm (List.range n) ∧ G.F__law_shuffled [s.v, .v (.int (n : Int))] = .ok (.v (oi o)) [Rd.v s'] := by
  unfold G.F__law_shuffled G.c__law_shuffled
  have hr : rng 0 n = (List.range n).map fun (k : Nat) => D.int (k : Int) := by simp [rng]
  obtain ⟨acc, e2, h1, o, rest, s', rfl, hl, hp, rfl⟩ := eCompI (k := 3) (it := iR1 (eV 1)) (x := mPop 2 (eCall G.F__law_take [.lent 0, .va (e1 oLen (eP 2))]))
    (e := [some s.v, some (.v (.int (n : Int))), some (.o ((List.range n).map fun (k : Nat) => D.int (k : Int))), none]) (e1 := [some s.v, some (.v (.int (n : Int))), some (.o ((List.range n).map fun (k : Nat) => D.int (k : Int))), none]) (l := rng 0 n)
    (fun j acc e => ∃ (o rest : List Nat) (s' : Rd), acc = o.map (fun (k : Nat) => D.int (k : Int)) ∧ o.length = j ∧ (o ++ rest).Perm (List.range n) ∧ e = [some s'.v, some (.v (.int (n : Int))), some (.o (rest.map fun (k : Nat) => D.int (k : Int))), none])
    (iR1_nat (by simp) (by omega)) (by rw [rng_len]; unfold lim; omega) rfl ⟨[], List.range n, s, rfl, rfl, List.Perm.refl _, rfl⟩ (by
      rintro j acc e d hjn ⟨o, rest, s1, rfl, hj, hp, rfl⟩ hd
      have hlen := hp.length_eq
      rw [List.length_append, List.length_range] at hlen
      rw [rng_len] at hjn
      obtain ⟨r, s2, r0, r1, ht⟩ := take_spec s1 (rest.length : Int) (by omega) (by omega)
      obtain ⟨q, rfl⟩ : ∃ q : Nat, r = q := ⟨r.toNat, by omega⟩
      have hq : q < rest.length := by omega
      have hsm : smallI (q : Int) = true := small_nat (by omega)
      have hix : ixN rest.length (q : Int) = some q := by
        unfold ixN
        rw [if_pos (by omega), if_pos (by omega)]
        simp
      refine ⟨.v (.int (rest[q] : Nat)), .int (rest[q] : Nat), [some s2.v, some (.v (.int (n : Int))), some (.o ((rest.eraseIdx q).map fun (k : Nat) => D.int (k : Int))), some (.v d)], ?_, rfl, o ++ [rest[q]], rest.eraseIdx q, s2, by simp, by simp [hj], ?_, by simp⟩
      · simp [ht, hsm, hix, hq, map_erase]
      · rw [List.append_assoc]
        exact ((perm_erase rest q hq).append_left o).trans hp)
  have hz : rest = [] := by
    have hlen := hp.length_eq
    rw [List.length_append, List.length_range, hl, rng_len] at hlen
    exact List.eq_nil_of_length_eq_zero (by omega)
  subst hz
  rw [List.append_nil] at hp
  refine ⟨o, s', hp, ?_⟩
  generalize eComp [3] (iR1 (eV 1)) (gN 3) tYes (mPop 2 (eCall G.F__law_take [.lent 0, .va (e1 oLen (eP 2))])) = Y at h1 ⊢
  have hk : rgOk 0 (n : Int) = true := by
    unfold rgOk
    rw [small_nat (by omega : n ≤ 1000000), show smallI 0 = true by decide, decide_eq_true (by unfold lim; omega)]
    rfl
  simp [hk, hr, h1, oi]
end Fx
end

section
set_option linter.all false
set_option maxRecDepth 10000
namespace Fx
def edR (e : Edg) : List Int := [(e.1 : Int), (e.2.1 : Int), e.2.2]
def edD (e : Edg) : D := tiD (edR e)
theorem rng_one (n : Nat) : rng 1 n = (List.range' 1 n).map fun (t : Nat) => D.int (t : Int) := by
  unfold rng
  rw [List.range'_eq_map_range, List.map_map]
  refine List.map_congr_left fun k _ => ?_
  simp only [Function.comp]
  congr 1
theorem introws_ed : ∀ E : List Edg, D.introws (E.map edD) = some (E.map edR)
  | [] => rfl
  | e :: E => by
    show D.introws (edD e :: E.map edD) = _
    unfold edD tiD edR
    simp only [List.map_cons, List.map_nil, D.introws, D.ints, Option.map_some]
    have := introws_ed E
    unfold edD tiD edR at this
    simp only [List.map_cons, List.map_nil] at this
    rw [this]
/-- sorted edges are edges -/
theorem sort_ed (E : List Edg) : ∃ E' : List Edg, (∀ e, e ∈ E' ↔ e ∈ E) ∧ E'.length = E.length ∧ oSort (.v (.lst (E.map edD))) = some (.o (E'.map edD)) := by
  cases hE : E with
  | nil => exact ⟨[], by simp, rfl, by simp [oSort, oSortI, Vl.items, D.items, D.ints]⟩
  | cons e0 r =>
    rw [← hE]
    have hs : oSortI (.v (.lst (E.map edD))) = none := by
      rw [hE]
      unfold oSortI
      simp [Vl.items, D.items, edD, tiD, D.ints]
    have hp := List.mergeSort_perm (E.map edR) (fun a b => decide (a ≤ b))
    let dec : List Int → Edg := fun r => ((r.getD 0 0).toNat, (r.getD 1 0).toNat, r.getD 2 0)
    have hd : ∀ e : Edg, dec (edR e) = e := fun e => by simp [dec, edR]
    have hm : ∀ r ∈ (E.map edR).mergeSort (fun a b => decide (a ≤ b)), edR (dec r) = r := fun r hr => by
      obtain ⟨e, _, rfl⟩ := List.mem_map.mp (hp.mem_iff.mp hr)
      rw [hd]
    refine ⟨((E.map edR).mergeSort fun a b => decide (a ≤ b)).map dec, fun e => ?_, by simp, ?_⟩
    · constructor
      · intro h
        obtain ⟨r, hr, rfl⟩ := List.mem_map.mp h
        obtain ⟨e, he, rfl⟩ := List.mem_map.mp (hp.mem_iff.mp hr)
        rw [hd]; exact he
      · intro h
        exact List.mem_map.mpr ⟨edR e, hp.mem_iff.mpr (List.mem_map.mpr ⟨e, h, rfl⟩), hd e⟩
    · unfold oSort
      rw [hs]
      unfold oSortT
      simp only [Vl.items, D.items, Option.bind_some, introws_ed, Option.map_some]
      congr 2
      rw [List.map_map]
      refine List.map_congr_left fun r hr => ?_
      show tiD r = tiD (edR (dec r))
      rw [hm r hr]
theorem tree_spec (s : Rd) (n more : Nat) (top : Int) (h1 : 1 ≤ n) (hn : n + more ≤ 100) (t1 : 1 ≤ top) (t2 : top ≤ 1000) : ∃ (m : Nat) (o : List Nat) (E : List Edg) (dd : Nat → Nat → Int) (s' : Rd), n ≤ m ∧ m ≤ n + more ∧ o.Perm (List.range m) ∧ Tr o E dd ((m - 1) * top) ∧ E.length ≤ m ∧ G.F__law_tree [s.v, .v (.int (n : Int)), .v (.int (more : Int)), .v (.int top)] = .ok (.o [.int (m : Int), .tup (E.map edD)]) [Rd.v s'] := by
  unfold G.F__law_tree G.c__law_tree
  obtain ⟨r, s1, r0, r1, ht⟩ := take_spec s ((more : Int) + 1) (by omega) (by omega)
  obtain ⟨x, rfl⟩ : ∃ x : Nat, r = x := ⟨r.toNat, by omega⟩
  obtain ⟨o, s2, hp, hsh⟩ := shuffled_spec s1 (n + x) (by omega)
  have hol := hp.length_eq
  rw [List.length_range] at hol
  have hnd : o.Nodup := hp.nodup_iff.mpr List.nodup_range
  have hbody := forGoR (g := gN 7) (b := sSeq (sSet 8 (eIxP 5 (eCall G.F__law_take [.lent 0, .va (eV 7)]))) (sDrop (mApp 6 (eTup (eCons (e2 oMin2 (eV 8) (eIxP 5 (eV 7))) (eCons (e2 oMax2 (eV 8) (eIxP 5 (eV 7))) (eCons (e2 oAdd (eC (.int 1)) (eCall G.F__law_take [.lent 0, .va (eV 3)])) eNil)))))))
    (fun k e => ∃ s' E dd r7 r8, Tr (o.take k) E dd (((k : Int) - 1) * top) ∧ E.length = k - 1 ∧ 1 ≤ k ∧ e = [some (Rd.v s'), some (.v (.int (n : Int))), some (.v (.int (more : Int))), some (.v (.int top)), some (.v (.int ((n + x : Nat) : Int))), some (.v (oi o)), some (.o (E.map edD)), r7, r8]) (n + x) (n + x - 1) 1
    [some (Rd.v s2), some (.v (.int (n : Int))), some (.v (.int (more : Int))), some (.v (.int top)), some (.v (.int ((n + x : Nat) : Int))), some (.v (oi o)), some (.o []), none, none] (by omega) (by
      obtain ⟨v, ho⟩ : ∃ v, o.take 1 = [v] := by
        cases o with
        | nil => simp at hol; omega
        | cons v o => exact ⟨v, by simp⟩
      refine ⟨s2, [], (fun _ _ => 0), none, none, ?_, rfl, by omega, rfl⟩
      rw [ho]
      have := tr_one v
      simpa using this) (by
      rintro k e hk ⟨s3, E, dd, r7, r8, hT, hE, hk1, rfl⟩
      obtain ⟨q0, s4, q1, q2, hq⟩ := take_spec s3 (k : Int) (by omega) (by omega)
      obtain ⟨q, rfl⟩ : ∃ q : Nat, q0 = q := ⟨q0.toNat, by omega⟩
      obtain ⟨w0, s5, w1, w2, hw⟩ := take_spec s4 top (by omega) (by omega)
      have hqo : q < o.length := by omega
      have hko : k < o.length := by omega
      have ga : o[q]? = some (o[q]) := List.getElem?_eq_getElem hqo
      have gb : o[k]? = some (o[k]) := List.getElem?_eq_getElem hko
      have ha : o[q] ∈ o.take k := by
        rw [List.mem_take_iff_getElem]
        exact ⟨q, by omega, rfl⟩
      have hb : o[k] ∉ o.take k := by
        rw [List.mem_take_iff_getElem]
        rintro ⟨z, hz, e⟩
        exact List.pairwise_iff_getElem.mp hnd z k (by omega) hko (by omega) e
      have hne : o[q] ≠ o[k] := fun e => List.pairwise_iff_getElem.mp hnd q k hqo hko (by omega) e
      generalize o[q] = a at *
      generalize hbb : o[k] = b at *
      have hst := tr_leaf hT ha hb (w := 1 + w0) (t := top) (by omega) (by omega) (min a b, max a b, 1 + w0) (by
        rcases Nat.le_total a b with z | z
        · left; rw [Nat.min_eq_left z, Nat.max_eq_right z]
        · right; rw [Nat.min_eq_right z, Nat.max_eq_left z]) (Int.mul_nonneg (by omega) (by omega))
      have htk : o.take (k + 1) = o.take k ++ [b] := by
        rw [← hbb, List.take_append_getElem]
      have hbd : (((k + 1 : Nat) : Int) - 1) * top = ((k : Int) - 1) * top + top := by
        rw [show (((k + 1 : Nat) : Int) - 1) = ((k : Int) - 1) + 1 by omega, Int.add_mul, Int.one_mul]
      refine ⟨_, [some (Rd.v s5), some (.v (.int (n : Int))), some (.v (.int (more : Int))), some (.v (.int top)), some (.v (.int ((n + x : Nat) : Int))), some (.v (oi o)), some (.o ((E ++ [(min a b, max a b, 1 + w0)]).map edD)), some (.v (.int (k : Int))), some (.v (.int (a : Int)))], rfl, ?_, s5, _, _, _, _, by rw [htk, hbd]; exact hst, by simp [hE]; omega, by omega, rfl⟩
      have hll : E.length < lim := by unfold lim; omega
      have m1 : min (a : Int) (b : Int) = ((min a b : Nat) : Int) := by omega
      have m2 : max (a : Int) (b : Int) = ((max a b : Nat) : Int) := by omega
      have hed : D.tup [.int ((min a b : Nat) : Int), .int ((max a b : Nat) : Int), .int (1 + w0)] = edD (min a b, max a b, 1 + w0) := rfl
      simp [hq, hw, ga, gb, hll, m1, m2, hed])
  obtain ⟨e', hf, s3, E, dd, r7, r8, hT, hE, _, rfl⟩ := hbody
  obtain ⟨E', hmem, hlen, hso⟩ := sort_ed E
  refine ⟨n + x, o, E', dd, s3, by omega, by omega, hp, ?_, by omega, ?_⟩
  · have hto : o.take (n + x) = o := List.take_of_length_le (by omega)
    rw [hto] at hT
    exact hT.of_mem hmem
  · have hr : smallI ((n : Int) + (x : Int)) = true := small_le (by omega)
    have hr1 : smallI 1 = true := small_le (by omega)
    have htn : ((n : Int) + (x : Int) - 1).toNat = n + x - 1 := by omega
    have hcast : ((n : Int) + (x : Int)) = ((n + x : Nat) : Int) := by omega
    rw [← rng_one] at hf
    rw [hcast] at hr htn
    have hfor : sFor (iR2 (eC (.int 1)) (eV 4)) (gN 7) (sSeq (sSet 8 (eIxP 5 (eCall G.F__law_take [.lent 0, .va (eV 7)]))) (sDrop (mApp 6 (eTup (eCons (e2 oMin2 (eV 8) (eIxP 5 (eV 7))) (eCons (e2 oMax2 (eV 8) (eIxP 5 (eV 7))) (eCons (e2 oAdd (eC (.int 1)) (eCall G.F__law_take [.lent 0, .va (eV 3)])) eNil)))))))
      [some (Rd.v s2), some (.v (.int (n : Int))), some (.v (.int (more : Int))), some (.v (.int top)), some (.v (.int ((n + x : Nat) : Int))), some (.v (oi o)), some (.o []), none, none] = .nxt [some (Rd.v s3), some (.v (.int (n : Int))), some (.v (.int (more : Int))), some (.v (.int top)), some (.v (.int ((n + x : Nat) : Int))), some (.v (oi o)), some (.o (E.map edD)), r7, r8] := by
      rw [s_sFor]
      have : iR2 (eC (.int 1)) (eV 4) [some (Rd.v s2), some (.v (.int (n : Int))), some (.v (.int (more : Int))), some (.v (.int top)), some (.v (.int ((n + x : Nat) : Int))), some (.v (oi o)), some (.o []), none, none] = .ok (rng 1 (n + x - 1)) [some (Rd.v s2), some (.v (.int (n : Int))), some (.v (.int (more : Int))), some (.v (.int top)), some (.v (.int ((n + x : Nat) : Int))), some (.v (oi o)), some (.o []), none, none] := by
        rw [s_iR2]
        simp only [s_eC, s_eV, Rs.then, List.getElem?_cons_succ, List.getElem?_cons_zero, hr, hr1, Bool.and_self, if_true, htn]
      rw [this]
      exact hf
    generalize sFor (iR2 (eC (.int 1)) (eV 4)) (gN 7) _ = Y at hfor ⊢
    rw [← hcast] at hsh hfor ⊢
    simp [ht, hsh, hfor, hso]
end Fx
end

section
set_option linter.all false
set_option maxRecDepth 10000
namespace Fx
/-! the ways along a tree, found step by step -/
def st (f : Nat → Option Int) (e : Edg) : Nat → Option Int :=
  if (f e.1).isSome && (f e.2.1).isNone then fun x => if x = e.2.1 then (f e.1).map (· + e.2.2) else f x
  else if (f e.2.1).isSome && (f e.1).isNone then fun x => if x = e.1 then (f e.2.1).map (· + e.2.2) else f x else f
structure Kn (V : List Nat) (D : Nat → Nat → Int) (i : Nat) (f : Nat → Option Int) : Prop where
  ok : ∀ x v, f x = some v → x ∈ V ∧ v = D i x
  me : f i = some 0
  cl : ∀ x ∈ V, f x ≠ none → ∀ y ∈ V, D i x = D i y + D y x → f y ≠ none
section
variable {V : List Nat} {E : List Edg} {D : Nat → Nat → Int} {top : Int} {i : Nat} {f : Nat → Option Int}
theorem kn_grow (h : Tr V E D top) (hi : i ∈ V) (k : Kn V D i f) {a b : Nat} {w v : Int} (he : Ed E a b w) (ha : f a = some v) (hb : f b = none) : Kn V D i (fun x => if x = b then some (v + w) else f x) := by
  obtain ⟨ma, mb, dab, w0⟩ := h.ed a b w he
  obtain ⟨_, va⟩ := k.ok a v ha
  have side : D i b = D i a + w := by
    rcases h.di a b w he i hi with q | q
    · exact q
    · have hba : D b a = w := by rw [h.sy b mb a ma, dab]
      exact absurd hb (k.cl a ma (by rw [ha]; simp) b mb (by rw [q, hba]))
  refine ⟨fun x u hx => ?_, ?_, fun x hx hfx y hy hxy => ?_⟩
  · by_cases q : x = b
    · subst q
      rw [if_pos rfl] at hx
      cases hx
      exact ⟨mb, by rw [va, side]⟩
    · rw [if_neg q] at hx
      exact k.ok x u hx
  · have : i ≠ b := fun q => by
      have := k.me
      rw [q, hb] at this
      cases this
    show (if i = b then some (v + w) else f i) = some 0
    rw [if_neg this]
    exact k.me
  · show (if y = b then some (v + w) else f y) ≠ none
    by_cases qy : y = b
    · rw [if_pos qy]; simp
    · rw [if_neg qy]
      by_cases q : x = b
      · subst q
        rcases h.di a x w he y hy with z | z
        · exact k.cl a ma (by rw [ha]; simp) y hy (by omega)
        · have s1 := h.sp a x w he i hi y hy side z
          have s2 := h.sy x mb y hy
          have s3 := h.ps x mb y hy (fun z => qy z.symm)
          omega
      · have hfx' : f x ≠ none := by
          have : (if x = b then some (v + w) else f x) ≠ none := hfx
          rwa [if_neg q] at this
        exact k.cl x hx hfx' y hy hxy
theorem kn_st (h : Tr V E D top) (hi : i ∈ V) (k : Kn V D i f) {e : Edg} (he : e ∈ E) : Kn V D i (st f e) := by
  obtain ⟨a, b, w⟩ := e
  unfold st
  dsimp only
  cases ha : f a with
  | none =>
    cases hb : f b with
    | none => simpa using k
    | some v => simpa [ha, hb] using kn_grow h hi k (a := b) (b := a) (w := w) (.inr he) hb ha
  | some v =>
    cases hb : f b with
    | none => simpa [ha, hb] using kn_grow h hi k (a := a) (b := b) (w := w) (.inl he) ha hb
    | some u => simpa using k
theorem st_mono (e : Edg) {x : Nat} (hx : f x ≠ none) : st f e x ≠ none := by
  obtain ⟨a, b, w⟩ := e
  unfold st
  dsimp only
  cases ha : f a with
  | none =>
    cases hb : f b with
    | none => simpa using hx
    | some v =>
      simp only [Option.isSome_none, Option.isNone_some, Bool.and_self, Bool.false_eq_true, if_false, Option.isSome_some, Option.isNone_none, if_true, Option.map_some]
      split
      · simp
      · exact hx
  | some v =>
    cases hb : f b with
    | none =>
      simp only [Option.isSome_some, Option.isNone_none, Bool.and_self, if_true, Option.map_some]
      split
      · simp
      · exact hx
    | some u => simpa using hx
theorem st_both (a b : Nat) (w : Int) (hx : f a ≠ none ∨ f b ≠ none) : st f (a, b, w) a ≠ none ∧ st f (a, b, w) b ≠ none := by
  unfold st
  dsimp only
  cases ha : f a with
  | none =>
    cases hb : f b with
    | none => rw [ha, hb] at hx; simp at hx
    | some v =>
      simp only [Option.isSome_none, Option.isNone_some, Bool.and_self, Bool.false_eq_true, if_false, Option.isSome_some, Option.isNone_none, if_true, Option.map_some]
      refine ⟨by simp, ?_⟩
      split
      · simp
      · rw [hb]; simp
  | some v =>
    cases hb : f b with
    | none =>
      simp only [Option.isSome_some, Option.isNone_none, Bool.and_self, if_true, Option.map_some]
      refine ⟨?_, by simp⟩
      split
      · simp
      · rw [ha]; simp
    | some u => simp [ha, hb]
theorem pass_kn (h : Tr V E D top) (hi : i ∈ V) : ∀ (l : List Edg) (f : Nat → Option Int), (∀ e ∈ l, e ∈ E) → Kn V D i f → Kn V D i (l.foldl st f)
  | [], _, _, k => k
  | e :: l, f, hl, k => pass_kn h hi l _ (fun e he => hl e (by simp [he])) (kn_st h hi k (hl e (by simp)))
theorem pass_mono : ∀ (l : List Edg) (f : Nat → Option Int) {x : Nat}, f x ≠ none → l.foldl st f x ≠ none
  | [], _, _, h => h
  | e :: l, f, x, h => pass_mono l _ (st_mono e h)
theorem pass_both : ∀ (l : List Edg) (f : Nat → Option Int) (a b : Nat) (w : Int), (a, b, w) ∈ l → f a ≠ none ∨ f b ≠ none → l.foldl st f a ≠ none ∧ l.foldl st f b ≠ none
  | [], _, _, _, _, h, _ => by simp at h
  | e :: l, f, a, b, w, h, k => by
    rcases List.mem_cons.mp h with rfl | h
    · obtain ⟨h1, h2⟩ := st_both (f := f) a b w k
      exact ⟨pass_mono l _ h1, pass_mono l _ h2⟩
    · exact pass_both l _ a b w h (k.imp (st_mono e) (st_mono e))
theorem count_lt {α : Type} (P Q : α → Bool) : ∀ (l : List α), (∀ x ∈ l, P x = true → Q x = true) → (∃ x ∈ l, Q x = true ∧ P x = false) → l.countP P < l.countP Q
  | [], _, h => by obtain ⟨x, hx, _⟩ := h; simp at hx
  | a :: l, hs, h => by
    have hle : ∀ l : List α, (∀ x ∈ l, P x = true → Q x = true) → l.countP P ≤ l.countP Q := fun l hl => List.countP_mono_left hl
    have h1 := hs a (by simp)
    have h2 := hle l fun x hx => hs x (by simp [hx])
    obtain ⟨x, hx, hq, hp⟩ := h
    rcases List.mem_cons.mp hx with rfl | hx
    · rw [List.countP_cons_of_neg (by rw [hp]; simp), List.countP_cons_of_pos hq]
      omega
    · have h3 := count_lt P Q l (fun x hx => hs x (by simp [hx])) ⟨x, hx, hq, hp⟩
      cases hP : P a with
      | false =>
        rw [List.countP_cons_of_neg (by rw [hP]; simp)]
        cases hQ : Q a with
        | false => rw [List.countP_cons_of_neg (by rw [hQ]; simp)]; exact h3
        | true => rw [List.countP_cons_of_pos hQ]; omega
      | true =>
        rw [List.countP_cons_of_pos hP, List.countP_cons_of_pos (h1 hP)]
        omega
def unk (V : List Nat) (f : Nat → Option Int) : Nat := V.countP fun x => (f x).isNone
theorem pass_less (h : Tr V E D top) (hi : i ∈ V) (k : Kn V D i f) : unk V (E.foldl st f) = 0 ∨ unk V (E.foldl st f) < unk V f := by
  by_cases hz : ∃ y ∈ V, f y = none
  · right
    obtain ⟨y, hy, hfy⟩ := hz
    obtain ⟨a, b, w, he, sa, sb⟩ := h.cn (fun x => f x ≠ none) ⟨i, hi, by rw [k.me]; simp⟩ ⟨y, hy, by simpa using hfy⟩
    obtain ⟨ma, mb, _⟩ := h.ed a b w he
    have hb : E.foldl st f b ≠ none := by
      rcases he with he | he
      · exact (pass_both E f a b w he (.inl sa)).2
      · exact (pass_both E f b a w he (.inr sa)).1
    have hfb : f b = none := Classical.byContradiction sb
    refine count_lt _ _ V (fun x _ hx => ?_) ⟨b, mb, by simp [hfb], ?_⟩
    · cases hfx : f x with
      | none => rfl
      | some v =>
        have := pass_mono E f (x := x) (by rw [hfx]; simp)
        cases hq : E.foldl st f x with
        | none => exact absurd hq this
        | some u => rw [hq] at hx; cases hx
    · cases hq : E.foldl st f b with
      | none => exact absurd hq hb
      | some u => rfl
  · left
    unfold unk
    rw [List.countP_eq_zero]
    intro x hx hn
    have : f x ≠ none := fun q => hz ⟨x, hx, q⟩
    have := pass_mono E f this
    cases hq : E.foldl st f x with
    | none => exact this hq
    | some u => rw [hq] at hn; cases hn
def ini (i : Nat) : Nat → Option Int := fun x => if i = x then some 0 else none
def runs (E : List Edg) (i : Nat) : Nat → (Nat → Option Int)
  | 0 => ini i
  | k + 1 => E.foldl st (runs E i k)
theorem ini_kn (h : Tr V E D top) (hi : i ∈ V) : Kn V D i (ini i) := by
  refine ⟨fun x v hx => ?_, by simp [ini], fun x hx hfx y hy hxy => ?_⟩
  · unfold ini at hx
    split at hx
    · rename_i q
      subst q
      cases hx
      exact ⟨hi, (h.dg i hi).symm⟩
    · cases hx
  · unfold ini at hfx ⊢
    split at hfx
    · rename_i q
      subst q
      by_cases z : i = y
      · rw [if_pos z]; simp
      · have h1 := h.dg i hi
        have h2 := h.ps i hi y hy z
        have h3 := h.ps y hy i hi (fun q => z q.symm)
        omega
    · exact absurd rfl hfx
theorem runs_kn (h : Tr V E D top) (hi : i ∈ V) : ∀ k, Kn V D i (runs E i k)
  | 0 => ini_kn h hi
  | k + 1 => pass_kn h hi E _ (fun _ he => he) (runs_kn h hi k)
theorem runs_unk (h : Tr V E D top) (hi : i ∈ V) : ∀ k, unk V (runs E i k) = 0 ∨ unk V (runs E i k) + k ≤ V.length
  | 0 => .inr (by unfold unk; exact List.countP_le_length)
  | k + 1 => by
    rcases pass_less h hi (runs_kn h hi k) with q | q
    · exact .inl q
    · rcases runs_unk h hi k with z | z
      · rw [z] at q; omega
      · right
        show unk V (E.foldl st (runs E i k)) + (k + 1) ≤ V.length
        omega
theorem runs_all (h : Tr V E D top) (hi : i ∈ V) {x : Nat} (hx : x ∈ V) : runs E i V.length x = some (D i x) := by
  have hz : unk V (runs E i V.length) = 0 := by
    rcases runs_unk h hi V.length with q | q
    · exact q
    · omega
  unfold unk at hz
  rw [List.countP_eq_zero] at hz
  have := hz x hx
  cases hq : runs E i V.length x with
  | none => rw [hq] at this; exact absurd rfl this
  | some v => rw [((runs_kn h hi V.length).ok x v hq).2]
end
end Fx
end

section
set_option linter.all false
set_option maxRecDepth 10000
namespace Fx
def oD : Option Int → D
  | none => .non
  | some v => .int v
def ooF (m : Nat) (F : Nat → Nat → Option Int) : List (List D) := (List.range m).map fun i => (List.range m).map fun j => oD (F i j)
def upR (F : Nat → Nat → Option Int) (i : Nat) (f : Nat → Option Int) : Nat → Nat → Option Int := fun x => if x = i then f else F x
theorem upR_self (F : Nat → Nat → Option Int) (i : Nat) : upR F i (F i) = F := by
  funext x
  unfold upR
  split
  · rename_i q; rw [q]
  · rfl
theorem upR_at (F : Nat → Nat → Option Int) (i : Nat) (f : Nat → Option Int) : upR F i f i = f := by unfold upR; rw [if_pos rfl]
theorem upR_upR (F : Nat → Nat → Option Int) (i : Nat) (f g : Nat → Option Int) : upR (upR F i f) i g = upR F i g := by
  funext x
  unfold upR
  split <;> rfl
theorem map_range_set {α : Type} (g : Nat → α) (m i : Nat) (v : α) : ((List.range m).map g).set i v = (List.range m).map fun x => if x = i then v else g x := by
  refine List.ext_getElem (by simp) fun k h1 h2 => ?_
  simp only [List.length_set, List.length_map, List.length_range] at h1
  rw [List.getElem_set]
  simp only [List.getElem_map, List.getElem_range]
  by_cases q : i = k
  · rw [if_pos q, if_pos q.symm]
  · rw [if_neg q, if_neg (fun z => q z.symm)]
theorem ooF_len (m : Nat) (F : Nat → Nat → Option Int) : (ooF m F).length = m := by simp [ooF]
theorem ooF_get (m : Nat) (F : Nat → Nat → Option Int) {i : Nat} (hi : i < m) : (ooF m F)[i]? = some ((List.range m).map fun j => oD (F i j)) := by simp [ooF, hi]
theorem ooF_read {m k : Nat} {F : Nat → Nat → Option Int} {f g : N} {e : En} {i j : Nat} (hk : e[k]? = some (some (.oo (ooF m F)))) (hf : f e = some (i : Int)) (hg : g e = some (j : Int)) (hi : i < m) (hj : j < m) :
    eIxPP k f g e = .ok (.v (oD (F i j))) e := by
  unfold eIxPP
  simp only [hk, hf, hg]
  rw [atD_nat, ooF_get m F hi, Option.bind_some, atD_nat]
  simp [hj]
theorem ooF_write {m k : Nat} {F : Nat → Nat → Option Int} {f g : N} {e : En} {i j : Nat} (hk : e[k]? = some (some (.oo (ooF m F)))) (hf : f e = some (i : Int)) (hg : g e = some (j : Int)) (hi : i < m) (hj : j < m) (v : Int) :
    gIx2 k f g (.int v) e = some (e.set k (some (.oo (ooF m (upR F i fun y => if y = j then some v else F i y))))) := by
  unfold gIx2
  simp only [hk, hf, hg, ooF_len, ixN_nat hi, Option.bind_some, ooF_get m F hi, List.length_map, List.length_range, ixN_nat hj, Option.map_some]
  congr 4
  unfold ooF
  rw [map_range_set, map_range_set]
  refine List.map_congr_left fun x _ => ?_
  unfold upR
  by_cases q : x = i
  · rw [if_pos q, if_pos q]
    refine List.map_congr_left fun y _ => ?_
    split <;> rfl
  · rw [if_neg q, if_neg q]
section
variable {m : Nat} {E : List Edg}
abbrev EA (m : Nat) (E : List Edg) (F : Nat → Nat → Option Int) (i t a b s : Option Vl) : En := [some (.v (.int (m : Int))), some (.v (.tup (E.map edD))), some (.oo (ooF m F)), i, t, a, b, s, none]
abbrev BA : C := sSeq (sIf (tAnd (tB (e2 oIsNot (eIxPP 2 (nV 3) (nV 5)) (eC .non))) (tB (e2 oIs (eIxPP 2 (nV 3) (nV 6)) (eC .non)))) (sTo (gIx2 2 (nV 3) (nV 6)) (e2 oAdd (eIxPP 2 (nV 3) (nV 5)) (eV 7))) sNil) (sIf (tAnd (tB (e2 oIsNot (eIxPP 2 (nV 3) (nV 6)) (eC .non))) (tB (e2 oIs (eIxPP 2 (nV 3) (nV 5)) (eC .non)))) (sTo (gIx2 2 (nV 3) (nV 5)) (e2 oAdd (eIxPP 2 (nV 3) (nV 6)) (eV 7))) sNil)
theorem isnot_oD (o : Option Int) : oIsNot (.v (oD o)) (.v .non) = some (.v (.bl o.isSome)) := by cases o <;> rfl
theorem is_oD (o : Option Int) : oIs (.v (oD o)) (.v .non) = some (.v (.bl o.isNone)) := by cases o <;> rfl
theorem turnA {F : Nat → Nat → Option Int} {i : Nat} (hi : i < m) (t : Option Vl) (a b : Nat) (w : Int) (ha : a < m) (hb : b < m) :
    BA (EA m E F (some (.v (.int (i : Int)))) t (some (.v (.int (a : Int)))) (some (.v (.int (b : Int)))) (some (.v (.int w)))) = .nxt (EA m E (upR F i (st (F i) (a, b, w))) (some (.v (.int (i : Int)))) t (some (.v (.int (a : Int)))) (some (.v (.int (b : Int)))) (some (.v (.int w)))) := by
  have rd := fun (F : Nat → Nat → Option Int) => ooF_read (m := m) (k := 2) (F := F) (f := nV 3) (g := nV 5) (e := EA m E F (some (.v (.int (i : Int)))) t (some (.v (.int (a : Int)))) (some (.v (.int (b : Int)))) (some (.v (.int w)))) rfl rfl rfl hi ha
  have rd2 := fun (F : Nat → Nat → Option Int) => ooF_read (m := m) (k := 2) (F := F) (f := nV 3) (g := nV 6) (e := EA m E F (some (.v (.int (i : Int)))) t (some (.v (.int (a : Int)))) (some (.v (.int (b : Int)))) (some (.v (.int w)))) rfl rfl rfl hi hb
  have wr := fun v => ooF_write (m := m) (k := 2) (F := F) (f := nV 3) (g := nV 5) (e := EA m E F (some (.v (.int (i : Int)))) t (some (.v (.int (a : Int)))) (some (.v (.int (b : Int)))) (some (.v (.int w)))) rfl rfl rfl hi ha v
  have wr2 := fun v => ooF_write (m := m) (k := 2) (F := F) (f := nV 3) (g := nV 6) (e := EA m E F (some (.v (.int (i : Int)))) t (some (.v (.int (a : Int)))) (some (.v (.int (b : Int)))) (some (.v (.int w)))) rfl rfl rfl hi hb v
  simp only [List.set_cons_succ, List.set_cons_zero] at wr wr2
  unfold st
  dsimp only
  cases qa : F i a with
  | none =>
    have h1 := rd F
    rw [qa] at h1
    cases qb : F i b with
    | none =>
      have h2 := rd2 F
      rw [qb] at h2
      simp [h1, h2, isnot_oD, is_oD, -s_eIxPP, -s_gIx2, upR_self]
    | some v =>
      have h2 := rd2 F
      rw [qb] at h2
      have h3 := wr (v + w)
      simp [h1, h2, h3, isnot_oD, is_oD, -s_eIxPP, -s_gIx2]
      simp [oD, h3, -s_gIx2]
  | some u =>
    have h1 := rd F
    rw [qa] at h1
    cases qb : F i b with
    | none =>
      have h2 := rd2 F
      rw [qb] at h2
      have h3 := wr2 (u + w)
      have h4 := rd (upR F i fun y => if y = b then some (u + w) else F i y)
      have h5 := rd2 (upR F i fun y => if y = b then some (u + w) else F i y)
      have hne : a ≠ b := fun z => by rw [z, qb] at qa; cases qa
      rw [upR_at, if_neg hne, qa] at h4
      rw [upR_at, if_pos rfl] at h5
      simp [h1, h2, isnot_oD, is_oD, -s_eIxPP, -s_gIx2]
      simp [oD, h3, -s_gIx2, -s_eIxPP]
      simp [h4, h5, isnot_oD, is_oD, -s_eIxPP, -s_gIx2]
    | some v =>
      have h2 := rd2 F
      rw [qb] at h2
      simp [h1, h2, isnot_oD, is_oD, -s_eIxPP, -s_gIx2, upR_self]
end
end Fx
end

section
set_option linter.all false
set_option maxRecDepth 10000
namespace Fx
theorem along_spec {m : Nat} {V : List Nat} {E : List Edg} {dd : Nat → Nat → Int} {top : Int} (h : Tr V E dd top) (hV : V.Perm (List.range m)) (hm : m ≤ 1000) (hE : E.length ≤ 1000) :
    G.F__law_along [.v (.int (m : Int)), .v (.tup (E.map edD))] = .ok (.v (.lst ((ooF m fun x y => some (dd x y)).map .lst))) [] := by
  have mem : ∀ x, x ∈ V ↔ x < m := fun x => by rw [hV.mem_iff, List.mem_range]
  have hlen : V.length = m := by rw [hV.length_eq, List.length_range]
  have ends : ∀ e ∈ E, e.1 < m ∧ e.2.1 < m := fun e he => by
    obtain ⟨h1, h2, _⟩ := h.ed e.1 e.2.1 e.2.2 (.inl he)
    exact ⟨(mem _).mp h1, (mem _).mp h2⟩
  have edges : ∀ (F : Nat → Nat → Option Int) (i : Nat) (t a b s : Option Vl), i < m → ∃ a' b' s', sFor (iL (eV 1)) (gT [(gN 5), (gN 6), (gN 7)]) BA (EA m E F (some (.v (.int (i : Int)))) t a b s) = .nxt (EA m E (upR F i (E.foldl st (F i))) (some (.v (.int (i : Int)))) t a' b' s') := by
    intro F i t a b s hi
    obtain ⟨e', h1, a', b', s', rfl⟩ := forGoL (g := gT [(gN 5), (gN 6), (gN 7)]) (b := BA) edD
      (fun pre e => ∃ a b s, e = EA m E (upR F i (pre.foldl st (F i))) (some (.v (.int (i : Int)))) t a b s) E.length E [] (EA m E F (some (.v (.int (i : Int)))) t a b s) (by simp) ⟨a, b, s, by simp [upR_self]⟩ (by
        rintro pre e x he hp ⟨a, b, s, rfl⟩
        obtain ⟨p, q, w⟩ := e
        obtain ⟨hp1, hq1⟩ := ends _ he
        have ht := turnA (E := E) (F := upR F i (pre.foldl st (F i))) hi t p q w hp1 hq1
        rw [upR_at, upR_upR] at ht
        refine ⟨EA m E (upR F i (pre.foldl st (F i))) (some (.v (.int (i : Int)))) t (some (.v (.int (p : Int)))) (some (.v (.int (q : Int)))) (some (.v (.int w))), _, ?_, ht, some (.v (.int (p : Int))), some (.v (.int (q : Int))), some (.v (.int w)), ?_⟩
        · simp [edD, tiD, edR]
        · rw [List.foldl_append]; rfl)
    refine ⟨a', b', s', ?_⟩
    rw [s_sFor]
    have : iL (eV 1) (EA m E F (some (.v (.int (i : Int)))) t a b s) = .ok (E.map edD) (EA m E F (some (.v (.int (i : Int)))) t a b s) := by simp
    rw [this]
    exact h1
  have turns : ∀ (F : Nat → Nat → Option Int) (i : Nat) (t a b s : Option Vl), i < m → F i = ini i → ∃ t' a' b' s', sFor (iR1 (eV 0)) (gN 4) (sFor (iL (eV 1)) (gT [(gN 5), (gN 6), (gN 7)]) BA) (EA m E F (some (.v (.int (i : Int)))) t a b s) = .nxt (EA m E (upR F i (runs E i m)) (some (.v (.int (i : Int)))) t' a' b' s') := by
    intro F i t a b s hi hF
    obtain ⟨e', h1, t', a', b', s', rfl⟩ := forGoR (g := gN 4) (b := sFor (iL (eV 1)) (gT [(gN 5), (gN 6), (gN 7)]) BA)
      (fun k e => ∃ t a b s, e = EA m E (upR F i (runs E i k)) (some (.v (.int (i : Int)))) t a b s) m m 0 (EA m E F (some (.v (.int (i : Int)))) t a b s) (by omega) ⟨t, a, b, s, by
        show _ = EA m E (upR F i (ini i)) _ _ _ _ _
        rw [← hF, upR_self]⟩ (by
        rintro k e hk ⟨t, a, b, s, rfl⟩
        obtain ⟨a', b', s', hs⟩ := edges (upR F i (runs E i k)) i (some (.v (.int (k : Int)))) a b s hi
        rw [upR_at, upR_upR] at hs
        exact ⟨_, _, rfl, hs, some (.v (.int (k : Int))), a', b', s', rfl⟩)
    rw [← rng_range'] at h1
    refine ⟨t', a', b', s', ?_⟩
    rw [s_sFor, iR1_nat (n := m) (e' := EA m E F (some (.v (.int (i : Int)))) t a b s) (by simp) (by omega)]
    exact h1
  have all : ∃ i t a b s, sFor (iR1 (eV 0)) (gN 3) (sFor (iR1 (eV 0)) (gN 4) (sFor (iL (eV 1)) (gT [(gN 5), (gN 6), (gN 7)]) BA)) (EA m E ini none none none none none) = .nxt (EA m E (fun x => if x < m then runs E x m else ini x) i t a b s) := by
    obtain ⟨e', h1, i', t', a', b', s', rfl⟩ := forGoR (g := gN 3) (b := sFor (iR1 (eV 0)) (gN 4) (sFor (iL (eV 1)) (gT [(gN 5), (gN 6), (gN 7)]) BA))
      (fun k e => ∃ i t a b s, e = EA m E (fun x => if x < k then runs E x m else ini x) i t a b s) m m 0 (EA m E ini none none none none none) (by omega) ⟨none, none, none, none, none, by simp⟩ (by
        rintro k e hk ⟨i, t, a, b, s, rfl⟩
        obtain ⟨t', a', b', s', hs⟩ := turns (fun x => if x < k then runs E x m else ini x) k t a b s hk (by simp)
        refine ⟨_, _, rfl, hs, some (.v (.int (k : Int))), t', a', b', s', ?_⟩
        congr 5
        funext x
        unfold upR
        by_cases q : x = k
        · subst q; simp
        · have : (x < k + 1) = (x < k) := by apply propext; omega
          simp [q, this])
    rw [← rng_range'] at h1
    refine ⟨i', t', a', b', s', ?_⟩
    rw [s_sFor, iR1_nat (n := m) (e' := EA m E ini none none none none none) (by simp) (by omega)]
    exact h1
  obtain ⟨i', t', a', b', s', hall⟩ := all
  have init := eCompO1 (k := 3) (it := iR1 (eV 0)) (x := eComp [8] (iR1 (eV 0)) (gN 8) tYes (eIf (tB (e2 oEq (eV 3) (eV 8))) (eC (.int 0)) (eC .non)))
    (e := [some (.v (.int (m : Int))), some (.v (.tup (E.map edD))), none, none, none, none, none, none, none]) (e1 := [some (.v (.int (m : Int))), some (.v (.tup (E.map edD))), none, none, none, none, none, none, none]) (l := rng 0 m)
    (fun d => (rng 0 m).map fun c => oD (ini d.nat c.nat)) (iR1_nat (by simp) (by omega)) (by rw [rng_len]; unfold lim; omega) rfl (fun d hd => by
      obtain ⟨i, hi, rfl⟩ := rng_mem hd
      have e0 : (0 : Int) + (i : Int) = (i : Int) := by omega
      rw [e0]
      have hin := eCompA (k := 8) (it := iR1 (eV 0)) (x := eIf (tB (e2 oEq (eV 3) (eV 8))) (eC (.int 0)) (eC .non)) (e := [some (.v (.int (m : Int))), some (.v (.tup (E.map edD))), none, some (.v (.int (i : Int))), none, none, none, none, none]) (e1 := [some (.v (.int (m : Int))), some (.v (.tup (E.map edD))), none, some (.v (.int (i : Int))), none, none, none, none, none]) (l := rng 0 m)
        (fun c => oD (ini i c.nat)) (iR1_nat (by simp) (by omega)) (by rw [rng_len]; unfold lim; omega) rfl (fun c hc => by
          obtain ⟨j, hj, rfl⟩ := rng_mem hc
          have e0 : (0 : Int) + (j : Int) = (j : Int) := by omega
          rw [e0]
          refine ⟨.v (oD (ini i j)), ?_, by simp [D.nat]⟩
          unfold ini
          by_cases q : i = j
          · subst q; simp [oD]
          · have : ¬ (i : Int) = (j : Int) := by omega
            simp [q, this, oD])
      exact hin)
  have einit : ((rng 0 m).map fun d => (rng 0 m).map fun c => oD (ini d.nat c.nat)) = ooF m ini := by
    unfold ooF rng
    simp [D.nat, Function.comp_def]
  rw [einit] at init
  have efin : ooF m (fun x => if x < m then runs E x m else ini x) = ooF m fun x y => some (dd x y) := by
    unfold ooF
    refine List.map_congr_left fun x hx => List.map_congr_left fun y hy => ?_
    rw [List.mem_range] at hx hy
    show oD ((if x < m then runs E x m else ini x) y) = oD (some (dd x y))
    rw [if_pos hx]
    have := runs_all h ((mem x).mpr hx) ((mem y).mpr hy)
    rw [hlen] at this
    rw [this]
  unfold EA at hall
  rw [efin] at hall
  unfold G.F__law_along G.c__law_along
  generalize eCompO [3] (iR1 (eV 0)) (gN 3) tYes (eComp [8] (iR1 (eV 0)) (gN 8) tYes (eIf (tB (e2 oEq (eV 3) (eV 8))) (eC (.int 0)) (eC .non))) = Y at init ⊢
  generalize sFor (iR1 (eV 0)) (gN 3) (sFor (iR1 (eV 0)) (gN 4) (sFor (iL (eV 1)) (gT [(gN 5), (gN 6), (gN 7)]) BA)) = Z at hall ⊢
  simp [init, hall]
end Fx
end

section
set_option linter.all false
set_option maxRecDepth 10000
namespace Fx
theorem sq_rowX {n : Nat} {T : List (List Int)} (h : Sq n T) (k i m : Nat) : Sq n ((List.range m).foldl (fSX k i) T) := sq_fold (fun T x h => sq_set2 h _ _ _) _ _ h
theorem sq_rowsX {n : Nat} {T : List (List Int)} (h : Sq n T) (k m : Nat) : Sq n ((List.range m).foldl (fRX k n) T) := sq_fold (fun T x h => sq_rowX h k x n) _ _ h
theorem sq_tabsX {n : Nat} {T : List (List Int)} (h : Sq n T) (m : Nat) : Sq n ((List.range m).foldl (fTX n) T) := sq_fold (fun T x h => sq_rowsX h x n) _ _ h
theorem ult_j {n : Nat} {T : List (List Int)} {s0 : Rd} (h : Sq n T) (hn : n ≤ 1000) {k i : Nat} (hk : k < n) (hi : i < n) (rj : Option Vl) : ∃ r, sFor (iR1 (eV 1)) (gN 9) (sTo (gIx2 6 (nV 8) (nV 9)) (e2 oMin2 (eIxPP 6 (nV 8) (nV 9)) (e2 oMax2 (eIxPP 6 (nV 8) (nV 7)) (eIxPP 6 (nV 7) (nV 9))))) [some (Rd.v s0), some (.v (.int (n : Int))), some (.v (.int 1)), none, none, none, some (.oo (oom T)), (some (.v (.int (k : Int)))), (some (.v (.int (i : Int)))), rj, none] = .nxt [some (Rd.v s0), some (.v (.int (n : Int))), some (.v (.int 1)), none, none, none, some (.oo (oom (fRX k n T i))), (some (.v (.int (k : Int)))), (some (.v (.int (i : Int)))), r, none] := by
  obtain ⟨e', h1, r, rfl⟩ := forGoR (g := gN 9) (b := sTo (gIx2 6 (nV 8) (nV 9)) (e2 oMin2 (eIxPP 6 (nV 8) (nV 9)) (e2 oMax2 (eIxPP 6 (nV 8) (nV 7)) (eIxPP 6 (nV 7) (nV 9)))))
    (fun m e => ∃ r, e = [some (Rd.v s0), some (.v (.int (n : Int))), some (.v (.int 1)), none, none, none, some (.oo (oom ((List.range m).foldl (fSX k i) T))), (some (.v (.int (k : Int)))), (some (.v (.int (i : Int)))), r, none]) n n 0 [some (Rd.v s0), some (.v (.int (n : Int))), some (.v (.int 1)), none, none, none, some (.oo (oom T)), (some (.v (.int (k : Int)))), (some (.v (.int (i : Int)))), rj, none] (by omega) ⟨rj, rfl⟩ (by
      rintro m e hm ⟨r, rfl⟩
      have sq := sq_rowX h k i m
      refine ⟨_, _, rfl, ?_, some (.v (.int (m : Int))), rfl⟩
      rw [foldl_succ]
      generalize (List.range m).foldl (fSX k i) T = U at sq ⊢
      have g1 := eIxPP_ok (k := 6) (f := nV 8) (g := nV 9) (e := [some (Rd.v s0), some (.v (.int (n : Int))), some (.v (.int 1)), none, none, none, some (.oo (oom U)), (some (.v (.int (k : Int)))), (some (.v (.int (i : Int)))), (some (.v (.int (m : Int)))), none]) sq rfl rfl rfl hi hm
      have g2 := eIxPP_ok (k := 6) (f := nV 8) (g := nV 7) (e := [some (Rd.v s0), some (.v (.int (n : Int))), some (.v (.int 1)), none, none, none, some (.oo (oom U)), (some (.v (.int (k : Int)))), (some (.v (.int (i : Int)))), (some (.v (.int (m : Int)))), none]) sq rfl rfl rfl hi hk
      have g3 := eIxPP_ok (k := 6) (f := nV 7) (g := nV 9) (e := [some (Rd.v s0), some (.v (.int (n : Int))), some (.v (.int 1)), none, none, none, some (.oo (oom U)), (some (.v (.int (k : Int)))), (some (.v (.int (i : Int)))), (some (.v (.int (m : Int)))), none]) sq rfl rfl rfl hk hm
      have g4 := gIx2_ok (k := 6) (f := nV 8) (g := nV 9) (e := [some (Rd.v s0), some (.v (.int (n : Int))), some (.v (.int 1)), none, none, none, some (.oo (oom U)), (some (.v (.int (k : Int)))), (some (.v (.int (i : Int)))), (some (.v (.int (m : Int)))), none]) sq rfl rfl rfl hi hm (min (at2 U i m) (max (at2 U i k) (at2 U k m)))
      simp only [List.set_cons_succ, List.set_cons_zero] at g4
      simp [g1, g2, g3, g4, -s_gIx2, -s_eIxPP, fSX])
  rw [← rng_range'] at h1
  refine ⟨r, ?_⟩
  rw [s_sFor, iR1_nat (n := n) (e' := [some (Rd.v s0), some (.v (.int (n : Int))), some (.v (.int 1)), none, none, none, some (.oo (oom T)), (some (.v (.int (k : Int)))), (some (.v (.int (i : Int)))), rj, none]) (by simp [oom_len h.len]) (by omega)]
  exact h1
theorem ult_i {n : Nat} {T : List (List Int)} {s0 : Rd} (h : Sq n T) (hn : n ≤ 1000) {k : Nat} (hk : k < n) (ri rj : Option Vl) : ∃ r s, sFor (iR1 (eV 1)) (gN 8) (sFor (iR1 (eV 1)) (gN 9) (sTo (gIx2 6 (nV 8) (nV 9)) (e2 oMin2 (eIxPP 6 (nV 8) (nV 9)) (e2 oMax2 (eIxPP 6 (nV 8) (nV 7)) (eIxPP 6 (nV 7) (nV 9)))))) [some (Rd.v s0), some (.v (.int (n : Int))), some (.v (.int 1)), none, none, none, some (.oo (oom T)), (some (.v (.int (k : Int)))), ri, rj, none] = .nxt [some (Rd.v s0), some (.v (.int (n : Int))), some (.v (.int 1)), none, none, none, some (.oo (oom (fTX n T k))), (some (.v (.int (k : Int)))), r, s, none] := by
  obtain ⟨e', h1, r, s, rfl⟩ := forGoR (g := gN 8) (b := sFor (iR1 (eV 1)) (gN 9) (sTo (gIx2 6 (nV 8) (nV 9)) (e2 oMin2 (eIxPP 6 (nV 8) (nV 9)) (e2 oMax2 (eIxPP 6 (nV 8) (nV 7)) (eIxPP 6 (nV 7) (nV 9))))))
    (fun m e => ∃ r s, e = [some (Rd.v s0), some (.v (.int (n : Int))), some (.v (.int 1)), none, none, none, some (.oo (oom ((List.range m).foldl (fRX k n) T))), (some (.v (.int (k : Int)))), r, s, none]) n n 0 [some (Rd.v s0), some (.v (.int (n : Int))), some (.v (.int 1)), none, none, none, some (.oo (oom T)), (some (.v (.int (k : Int)))), ri, rj, none] (by omega) ⟨ri, rj, rfl⟩ (by
      rintro m e hm ⟨r, s, rfl⟩
      obtain ⟨s', hs⟩ := ult_j (s0 := s0) (sq_rowsX h k m) hn hk hm s
      refine ⟨_, _, rfl, ?_, some (.v (.int (m : Int))), s', rfl⟩
      rw [foldl_succ]
      exact hs)
  rw [← rng_range'] at h1
  refine ⟨r, s, ?_⟩
  rw [s_sFor, iR1_nat (n := n) (e' := [some (Rd.v s0), some (.v (.int (n : Int))), some (.v (.int 1)), none, none, none, some (.oo (oom T)), (some (.v (.int (k : Int)))), ri, rj, none]) (by simp [oom_len h.len]) (by omega)]
  exact h1
theorem ult_k {n : Nat} {T : List (List Int)} {s0 : Rd} (h : Sq n T) (hn : n ≤ 1000) (rk ri rj : Option Vl) : ∃ q r s, sFor (iR1 (eV 1)) (gN 7) (sFor (iR1 (eV 1)) (gN 8) (sFor (iR1 (eV 1)) (gN 9) (sTo (gIx2 6 (nV 8) (nV 9)) (e2 oMin2 (eIxPP 6 (nV 8) (nV 9)) (e2 oMax2 (eIxPP 6 (nV 8) (nV 7)) (eIxPP 6 (nV 7) (nV 9))))))) [some (Rd.v s0), some (.v (.int (n : Int))), some (.v (.int 1)), none, none, none, some (.oo (oom T)), rk, ri, rj, none] = .nxt [some (Rd.v s0), some (.v (.int (n : Int))), some (.v (.int 1)), none, none, none, some (.oo (oom (floydX n T))), q, r, s, none] := by
  obtain ⟨e', h1, q, r, s, rfl⟩ := forGoR (g := gN 7) (b := sFor (iR1 (eV 1)) (gN 8) (sFor (iR1 (eV 1)) (gN 9) (sTo (gIx2 6 (nV 8) (nV 9)) (e2 oMin2 (eIxPP 6 (nV 8) (nV 9)) (e2 oMax2 (eIxPP 6 (nV 8) (nV 7)) (eIxPP 6 (nV 7) (nV 9)))))))
    (fun m e => ∃ q r s, e = [some (Rd.v s0), some (.v (.int (n : Int))), some (.v (.int 1)), none, none, none, some (.oo (oom ((List.range m).foldl (fTX n) T))), q, r, s, none]) n n 0 [some (Rd.v s0), some (.v (.int (n : Int))), some (.v (.int 1)), none, none, none, some (.oo (oom T)), rk, ri, rj, none] (by omega) ⟨rk, ri, rj, rfl⟩ (by
      rintro m e hm ⟨q, r, s, rfl⟩
      obtain ⟨r', s', hs⟩ := ult_i (s0 := s0) (sq_tabsX h m) hn hm r s
      refine ⟨_, _, rfl, ?_, some (.v (.int (m : Int))), r', s', rfl⟩
      rw [foldl_succ]
      exact hs)
  rw [← rng_range'] at h1
  refine ⟨q, r, s, ?_⟩
  rw [s_sFor, iR1_nat (n := n) (e' := [some (Rd.v s0), some (.v (.int (n : Int))), some (.v (.int 1)), none, none, none, some (.oo (oom T)), rk, ri, rj, none]) (by simp [oom_len h.len]) (by omega)]
  exact h1
/-- distances -/
structure Dst (n : Nat) (T : List (List Int)) : Prop where
  tab : TabI n 1000 T
  ps : ∀ i j, i < n → j < n → i ≠ j → 0 < at2 T i j
  tr : ∀ m i j, m < n → i < n → j < n → at2 T i j ≤ at2 T i m + at2 T m j
def fnT (n : Nat) (f : Nat → Nat → Int) : List (List Int) := (List.range n).map fun i => (List.range n).map fun j => f i j
theorem fnT_at {n : Nat} (f : Nat → Nat → Int) {i j : Nat} (hi : i < n) (hj : j < n) : at2 (fnT n f) i j = f i j := by
  unfold at2 fnT
  simp [List.getD, hi, hj]
theorem fnT_sq (n : Nat) (f : Nat → Nat → Int) : Sq n (fnT n f) := by
  refine ⟨by simp [fnT], fun i hi => ?_⟩
  unfold fnT
  simp [List.getD, hi]
/-- a table as _law_table makes it -/
structure Ptab (n : Nat) (top : Int) (T : List (List Int)) : Prop where
  tab : TabI n top T
  ps : ∀ i j, i < n → j < n → i ≠ j → 0 < at2 T i j
theorem Ptab.nn {n : Nat} {top : Int} {T : List (List Int)} (h : Ptab n top T) : Nn n (at2 T) := ⟨fun i j hi hj => (h.tab.rg i j hi hj).1, fun i hi => h.tab.dg i hi⟩
theorem dst_floyd {n : Nat} {top : Int} {T : List (List Int)} (h : Ptab n top T) (ht : top ≤ 1000) : Dst n (floyd n T) := by
  obtain ⟨sq, e⟩ := floyd_at h.tab.sq h.nn
  have le := Nat.le_refl n
  have nn := nn_fl h.nn n le
  refine ⟨⟨sq, fun a b ha hb => ?_, fun a b ha hb => ?_, fun a ha => ?_⟩, fun i j hi hj hij => ?_, fun m i j hm hi hj => ?_⟩
  · rw [e a b ha hb, e b a hb ha]; exact fl_sym h.tab.sy n le a b ha hb
  · rw [e a b ha hb]
    have h1 := fl_le (n := n) (f := at2 T) n a b
    have h2 := (h.tab.rg a b ha hb).2
    have h3 := nn.pos a b ha hb
    omega
  · rw [e a a ha ha]; exact nn.dg a ha
  · rw [e i j hi hj]; exact fl_pos h.nn h.ps n le i j hi hj hij
  · rw [e i j hi hj, e i m hi hm, e m j hm hj]; exact fl_tri h.nn n le m hm i j hi hj
theorem dst_floydX {n : Nat} {top : Int} {T : List (List Int)} (h : Ptab n top T) (ht : top ≤ 1000) : Dst n (floydX n T) := by
  obtain ⟨sq, e⟩ := floyd_atX h.tab.sq h.nn
  have le := Nat.le_refl n
  have nn := nn_flX h.nn n le
  refine ⟨⟨sq, fun a b ha hb => ?_, fun a b ha hb => ?_, fun a ha => ?_⟩, fun i j hi hj hij => ?_, fun m i j hm hi hj => ?_⟩
  · rw [e a b ha hb, e b a hb ha]; exact fl_symX h.tab.sy n le a b ha hb
  · rw [e a b ha hb]
    have h1 := fl_leX (n := n) (f := at2 T) n a b
    have h2 := (h.tab.rg a b ha hb).2
    have h3 := nn.pos a b ha hb
    omega
  · rw [e a a ha ha]; exact nn.dg a ha
  · rw [e i j hi hj]; exact fl_posX h.nn h.ps n le i j hi hj hij
  · rw [e i j hi hj, e i m hi hm, e m j hm hj]
    have h1 := fl_triX h.nn n le m hm i j hi hj
    have h2 := nn.pos i m hi hm
    have h3 := nn.pos m j hm hj
    omega
theorem dst_tree {n m : Nat} {V : List Nat} {E : List Edg} {dd : Nat → Nat → Int} {top : Int} (h : Tr V E dd top) (hV : V.Perm (List.range m)) (hn : n ≤ m) (ht : top ≤ 1000) : Dst n (fnT n dd) := by
  have mem : ∀ x, x < n → x ∈ V := fun x hx => by rw [hV.mem_iff, List.mem_range]; omega
  refine ⟨⟨fnT_sq n dd, fun a b ha hb => ?_, fun a b ha hb => ?_, fun a ha => ?_⟩, fun i j hi hj hij => ?_, fun k i j hk hi hj => ?_⟩
  · rw [fnT_at dd ha hb, fnT_at dd hb ha]; exact h.sy a (mem a ha) b (mem b hb)
  · rw [fnT_at dd ha hb]
    have h1 := h.bd a (mem a ha) b (mem b hb)
    by_cases q : a = b
    · subst q
      have := h.dg a (mem a ha)
      omega
    · have := h.ps a (mem a ha) b (mem b hb) q
      omega
  · rw [fnT_at dd ha ha]; exact h.dg a (mem a ha)
  · rw [fnT_at dd hi hj]; exact h.ps i (mem i hi) j (mem j hj) hij
  · rw [fnT_at dd hi hj, fnT_at dd hi hk, fnT_at dd hk hj]; exact h.tr i (mem i hi) k (mem k hk) j (mem j hj)
def tlL : D → List D
  | .lst r => r
  | _ => []
theorem fnT_cut {n m : Nat} (dd : Nat → Nat → Int) (hn : n ≤ m) : (((ooF m fun x y => some (dd x y)).map D.lst).take n).map (fun d => D.tup ((tlL d).take n)) = (fnT n dd).map ti := by
  unfold ooF fnT ti
  rw [← List.map_take, ← List.map_take, List.map_map, List.map_map, List.map_map, List.take_range, Nat.min_eq_left hn]
  refine List.map_congr_left fun i _ => ?_
  simp only [Function.comp, tlL]
  rw [← List.map_take, List.take_range, Nat.min_eq_left hn, List.map_map]
  rfl
theorem distances_spec' (s : Rd) (n : Nat) (h1 : 1 ≤ n) (h8 : n ≤ 8) : ∃ T s', (Dst n T ∧ ∀ i j, i < n → j < n → at2 T i j ≤ 100) ∧ G.F__law_distances [s.v, .v (.int (n : Int))] = .ok (.v (tt T)) [Rd.v s'] := by
  obtain ⟨menu, s1, m0, m1, hmenu⟩ := take_spec s 5 (by omega) (by omega)
  by_cases c0 : menu = 0
  · subst c0
    obtain ⟨m, V, E, dd, s3, hm1, hm2, hV, hT, hEl, htree⟩ := tree_spec s1 n 3 5 h1 (by omega) (by omega) (by omega)
    have htree' : G.F__law_tree [Rd.v s1, .v (.int (n : Int)), .v (.int 3), .v (.int 5)] = .ok (.o [.int (m : Int), .tup (E.map edD)]) [Rd.v s3] := htree
    have hal := along_spec hT hV (by omega) (by omega)
    have hc := eCompA (k := 10) (it := iL (eCut (eV 5) pNo (pSome (eV 1)))) (x := e1 oTuple (eCut (eV 10) pNo (pSome (eV 1)))) (e := [some (Rd.v s3), some (.v (.int (n : Int))), some (.v (.int 0)), some (.v (.int (m : Int))), some (.v (.tup (E.map edD))), some (.v (.lst ((ooF m fun x y => some (dd x y)).map .lst))), none, none, none, none, none]) (e1 := [some (Rd.v s3), some (.v (.int (n : Int))), some (.v (.int 0)), some (.v (.int (m : Int))), some (.v (.tup (E.map edD))), some (.v (.lst ((ooF m fun x y => some (dd x y)).map .lst))), none, none, none, none, none]) (l := ((ooF m fun x y => some (dd x y)).map D.lst).take n) (fun d => D.tup ((tlL d).take n))
      (by
        have hcut : oCut (.v (.lst ((ooF m fun x y => some (dd x y)).map D.lst))) none (some (n : Int)) = some (.o (((ooF m fun x y => some (dd x y)).map D.lst).take n)) := by
          unfold oCut
          dsimp only
          rw [cut_to _ n (by rw [List.length_map, ooF_len]; exact hm1)]
        simp [hcut]) (by rw [List.length_take]; unfold lim; omega) rfl (fun d hd => by
        have hd' := List.mem_of_mem_take hd
        obtain ⟨r, hr, rfl⟩ := List.mem_map.mp hd'
        unfold ooF at hr
        obtain ⟨i, hi, rfl⟩ := List.mem_map.mp hr
        refine ⟨.v (D.tup (((List.range m).map fun j => oD (some (dd i j))).take n)), ?_, rfl⟩
        have hcut : oCut (.v (.lst ((List.range m).map fun j => oD (some (dd i j))))) none (some (n : Int)) = some (.o (((List.range m).map fun j => oD (some (dd i j))).take n)) := by
          unfold oCut
          dsimp only
          rw [cut_to _ n (by simp; exact hm1)]
        simp [hcut])
    rw [fnT_cut dd hm1] at hc
    refine ⟨fnT n dd, s3, ⟨dst_tree hT hV hm1 (by omega), fun i j hi hj => ?_⟩, ?_⟩
    · rw [fnT_at dd hi hj]
      have := hT.bd i (by rw [hV.mem_iff, List.mem_range]; omega) j (by rw [hV.mem_iff, List.mem_range]; omega)
      omega
    unfold G.F__law_distances G.c__law_distances
    generalize eComp [10] (iL (eCut (eV 5) pNo (pSome (eV 1)))) (gN 10) tYes (e1 oTuple (eCut (eV 10) pNo (pSome (eV 1)))) = Y at hc ⊢
    simp [hmenu, htree', hal, hc]
    rfl
  · by_cases c1 : menu = 1
    · subst c1
      obtain ⟨T, s2, hT, hps, ht⟩ := table_spec' s1 n 9 h1 h8 (by omega) (by omega)
      have h := hT.sq
      have hU : Sq n (floydX n T) := sq_tabsX h n
      have hc := eCompO1 (k := 10) (it := iL (eCall G.F__law_table [.lent 0, .va (eV 1), .va (eC (.int 9))])) (x := e1 oList (eP 10)) (e := [some (Rd.v s1), some (.v (.int (n : Int))), some (.v (.int 1)), none, none, none, none, none, none, none, none]) (e1 := [some (Rd.v s2), some (.v (.int (n : Int))), some (.v (.int 1)), none, none, none, none, none, none, none, none]) (l := T.map ti) tlD (by simp [ht]) (by rw [List.length_map, h.len]; unfold lim; omega) rfl (fun d hd => by
        obtain ⟨r, _, rfl⟩ := List.mem_map.mp hd
        simp [oList, ti, tlD])
      rw [ti_rows] at hc
      obtain ⟨q, r, t, hf⟩ := ult_k (s0 := s2) h (by omega) none none none
      have fin := eCompA (k := 10) (it := iL (eV 6)) (x := e1 oTuple (eP 10)) (e := [some (Rd.v s2), some (.v (.int (n : Int))), some (.v (.int 1)), none, none, none, some (.oo (oom (floydX n T))), q, r, t, none]) (e1 := [some (Rd.v s2), some (.v (.int (n : Int))), some (.v (.int 1)), none, none, none, some (.v (.lst ((oom (floydX n T)).map .lst))), q, r, t, none]) (l := (oom (floydX n T)).map .lst)
        ltD (by simp) (by rw [List.length_map, oom_len hU.len]; unfold lim; omega) rfl (fun d hd => by
          obtain ⟨r, _, rfl⟩ := List.mem_map.mp hd
          exact ⟨.v (.tup r), by simp, rfl⟩)
      rw [oom_rows] at fin
      refine ⟨floydX n T, s2, ⟨dst_floydX ⟨hT, hps⟩ (by omega), fun i j hi hj => ?_⟩, ?_⟩
      · obtain ⟨_, e⟩ := floyd_atX hT.sq (Ptab.nn ⟨hT, hps⟩)
        rw [e i j hi hj]
        have h1 := fl_leX (n := n) (f := at2 T) n i j
        have h2 := (hT.rg i j hi hj).2
        omega
      unfold G.F__law_distances G.c__law_distances
      generalize eCompO [10] (iL (eCall G.F__law_table [.lent 0, .va (eV 1), .va (eC (.int 9))])) (gN 10) tYes (e1 oList (eP 10)) = Y at hc ⊢
      generalize eComp [10] (iL (eV 6)) (gN 10) tYes (e1 oTuple (eP 10)) = Z at fin ⊢
      generalize sFor (iR1 (eV 1)) (gN 7) (sFor (iR1 (eV 1)) (gN 8) (sFor (iR1 (eV 1)) (gN 9) (sTo (gIx2 6 (nV 8) (nV 9)) (e2 oMin2 (eIxPP 6 (nV 8) (nV 9)) (e2 oMax2 (eIxPP 6 (nV 8) (nV 7)) (eIxPP 6 (nV 7) (nV 9))))))) = U at hf ⊢
      simp [hmenu, hc, hf, fin]
      rfl
    · obtain ⟨d, s2, hd, hpick⟩ := pickL_spec s1 [.int 1, .int 2, .int 4, .int 9, .int 30] (by simp) (by simp)
      have : ∃ top : Int, d = .int top ∧ 1 ≤ top ∧ top ≤ 30 := by
        simp at hd
        rcases hd with rfl | rfl | rfl | rfl | rfl
        · exact ⟨1, rfl, by omega, by omega⟩
        · exact ⟨2, rfl, by omega, by omega⟩
        · exact ⟨4, rfl, by omega, by omega⟩
        · exact ⟨9, rfl, by omega, by omega⟩
        · exact ⟨30, rfl, by omega, by omega⟩
      obtain ⟨top, rfl, t1, t30⟩ := this
      obtain ⟨T, s3, hT, hps, ht⟩ := table_spec' s2 n top h1 h8 t1 (by omega)
      have hs := lshort_ok hT.sq (by omega)
      refine ⟨floyd n T, s3, ⟨dst_floyd ⟨hT, hps⟩ (by omega), fun i j hi hj => ?_⟩, ?_⟩
      · obtain ⟨_, e⟩ := floyd_at hT.sq (Ptab.nn ⟨hT, hps⟩)
        rw [e i j hi hj]
        have h1 := fl_le (n := n) (f := at2 T) n i j
        have h2 := (hT.rg i j hi hj).2
        omega
      unfold G.F__law_distances G.c__law_distances
      simp [hmenu, c0, c1, hpick, ht, hs]
theorem distances_spec (s : Rd) (n : Nat) (h1 : 1 ≤ n) (h8 : n ≤ 8) : ∃ T s', Dst n T ∧ G.F__law_distances [s.v, .v (.int (n : Int))] = .ok (.v (tt T)) [Rd.v s'] := by
  obtain ⟨T, s', ⟨h, _⟩, e⟩ := distances_spec' s n h1 h8
  exact ⟨T, s', h, e⟩
end Fx
end

section
set_option linter.all false
set_option maxRecDepth 10000
namespace Fx
/-! distance_paper -/
def a0 (r : List Nat) : Nat := r.getD 0 0
def a1 (r : List Nat) : Nat := r.getD 1 0
theorem ch2 {n : Nat} {r : List Nat} (h : r ∈ chK n 2) : ∃ a b, r = [a, b] ∧ a < b ∧ b < n := by
  obtain ⟨h1, h2, h3⟩ := chK_mem h
  match r, h1 with
  | [a, b], _ => exact ⟨a, b, rfl, by simpa using h3, h2 b (by simp)⟩
def sameP (T : List (List Int)) (r : List Nat) : Option D := if at2 T (a0 r) (a1 r) = 0 then some (.tup [.str "same", .int (a0 r : Nat), .int (a1 r : Nat)]) else none
def shortP (T : List (List Int)) (r : List Nat) (c : Nat) : Option D := if at2 T (a0 r) c + at2 T c (a1 r) < at2 T (a0 r) (a1 r) then some (.tup [.str "short", .int (a0 r : Nat), .int (c : Int), .int (a1 r : Nat)]) else none
/-- all faults, in the order in which they are told -/
def faults (T : List (List Int)) (n : Nat) : List D := (chK n 2).filterMap (sameP T) ++ (chK n 2).flatMap fun r => (List.range n).filterMap (shortP T r)
def dpD (T : List (List Int)) (n : Nat) : D := (faults T n).head?.getD (.tup [.str "distances"])
theorem head_filterMap {α β : Type} (f : α → Option β) : ∀ l : List α, (l.filterMap f).head? = l.findSome? f
  | [] => rfl
  | a :: l => by
    rw [List.filterMap_cons, List.findSome?_cons]
    cases f a with
    | none => exact head_filterMap f l
    | some x => rfl
theorem head_flatMap {α β : Type} (f : α → List β) : ∀ l : List α, (l.flatMap f).head? = l.findSome? fun a => (f a).head?
  | [] => rfl
  | a :: l => by
    rw [List.flatMap_cons, List.findSome?_cons]
    cases h : f a with
    | nil => simp [head_flatMap f l]
    | cons x r => simp
theorem findSome_map {α β γ : Type} (f : α → Option β) (g : β → γ) (l : List α) : l.findSome? (fun a => (f a).map g) = (l.findSome? f).map g := by
  induction l with
  | nil => rfl
  | cons a l ih =>
    rw [List.findSome?_cons, List.findSome?_cons]
    cases f a <;> simp [ih]
theorem distance_paper_ok {T : List (List Int)} {n : Nat} (hT : IsTab T) (lT : T.length = n) : G.F_distance_paper [.v (tt T)] = .ok (.v (dpD T n)) [] := by
  have n8 := hT.n8
  rw [lT] at n8
  have hk := check_table_ok hT
  have hch := choices_ok (n := n) (k := 2) n8 (by omega)
  have hch' : G.F_choices [.v (.int (n : Int)), .v (.int 2)] = .ok (.v (.lst ((chK n 2).map oi))) [] := hch
  have rd : ∀ a b, a < n → b < n → ∃ r, T[a]? = some r ∧ r[b]? = some (at2 T a b) := fun a b ha hb => at_ok hT.sq (by omega) (by omega)
  unfold G.F_distance_paper G.c_distance_paper
  obtain ⟨e1, ⟨x1, y1, rfl⟩, h1⟩ := forGo_find (g := gT [(gN 1), (gN 2)]) (b := sIf (tB (e2 oEq (e2 oIx (eIxP 0 (eV 1)) (eV 2)) (eC (.int 0)))) (sRet (eTup (eCons (eC (.str "same")) (eCons (eV 1) (eCons (eV 2) eNil))))) sNil)
    oi (fun e => ∃ x y, e = [some (.v (tt T)), x, y, none]) (fun r => (sameP T r).map Vl.v) (chK n 2) [some (.v (tt T)), none, none, none] ⟨none, none, rfl⟩ (by
      rintro r hr e ⟨x, y, rfl⟩
      obtain ⟨a, b, rfl, hab, hb⟩ := ch2 hr
      obtain ⟨row, g1, g2⟩ := rd a b (by omega) hb
      refine ⟨[some (.v (tt T)), some (.v (.int (a : Int))), some (.v (.int (b : Int))), none], [some (.v (tt T)), some (.v (.int (a : Int))), some (.v (.int (b : Int))), none], by simp [oi], ⟨_, _, rfl⟩, ?_⟩
      unfold sameP a0 a1
      by_cases q : at2 T a b = 0
      · simp [g1, g2, q]
      · simp [g1, g2, q])
  obtain ⟨e2, ⟨x2, y2, z2, rfl⟩, h2⟩ := forGo_find (g := gT [(gN 1), (gN 2)]) (b := sFor (iR1 (e1 oLen (eP 0))) (gN 3) (sIf (tB (e2 oLt (e2 oAdd (e2 oIx (eIxP 0 (eV 1)) (eV 3)) (e2 oIx (eIxP 0 (eV 3)) (eV 2))) (e2 oIx (eIxP 0 (eV 1)) (eV 2)))) (sRet (eTup (eCons (eC (.str "short")) (eCons (eV 1) (eCons (eV 3) (eCons (eV 2) eNil)))))) sNil))
    oi (fun e => ∃ x y z, e = [some (.v (tt T)), x, y, z]) (fun r => ((List.range n).findSome? (shortP T r)).map Vl.v) (chK n 2) [some (.v (tt T)), x1, y1, none] ⟨_, _, _, rfl⟩ (by
      rintro r hr e ⟨x, y, z, rfl⟩
      obtain ⟨a, b, rfl, hab, hb⟩ := ch2 hr
      obtain ⟨e3, ⟨z3, rfl⟩, h3⟩ := forGo_find (g := gN 3) (b := sIf (tB (e2 oLt (e2 oAdd (e2 oIx (eIxP 0 (eV 1)) (eV 3)) (e2 oIx (eIxP 0 (eV 3)) (eV 2))) (e2 oIx (eIxP 0 (eV 1)) (eV 2)))) (sRet (eTup (eCons (eC (.str "short")) (eCons (eV 1) (eCons (eV 3) (eCons (eV 2) eNil)))))) sNil)
        (fun (c : Nat) => D.int (c : Int)) (fun e => ∃ z, e = [some (.v (tt T)), some (.v (.int (a : Int))), some (.v (.int (b : Int))), z]) (fun c => (shortP T [a, b] c).map Vl.v) (List.range n) [some (.v (tt T)), some (.v (.int (a : Int))), some (.v (.int (b : Int))), z] ⟨z, rfl⟩ (by
          rintro c hc e ⟨z, rfl⟩
          rw [List.mem_range] at hc
          obtain ⟨r1, g1, g2⟩ := rd a b (by omega) hb
          obtain ⟨r2, g3, g4⟩ := rd a c (by omega) hc
          obtain ⟨r3, g5, g6⟩ := rd c b hc hb
          rw [g1] at g3
          cases g3
          refine ⟨_, [some (.v (tt T)), some (.v (.int (a : Int))), some (.v (.int (b : Int))), some (.v (.int (c : Int)))], rfl, ⟨_, rfl⟩, ?_⟩
          unfold shortP a0 a1
          by_cases q : at2 T a c + at2 T c b < at2 T a b
          · simp [g1, g2, g4, g5, g6, q]
          · simp [g1, g2, g4, g5, g6, q])
      have er : ((List.range n).map fun (c : Nat) => D.int (c : Int)) = rng 0 n := by simp [rng]
      rw [er, findSome_map] at h3
      refine ⟨[some (.v (tt T)), some (.v (.int (a : Int))), some (.v (.int (b : Int))), z], [some (.v (tt T)), some (.v (.int (a : Int))), some (.v (.int (b : Int))), z3], by simp [oi], ⟨_, _, _, rfl⟩, ?_⟩
      rw [s_sFor, iR1_nat (n := n) (e' := [some (.v (tt T)), some (.v (.int (a : Int))), some (.v (.int (b : Int))), z]) (by simp [lT]) (by omega)]
      exact h3)
  rw [findSome_map] at h1 h2
  have ef : dpD T n = match (chK n 2).findSome? (sameP T) with
      | some d => d
      | none => match (chK n 2).findSome? (fun r => (List.range n).findSome? (shortP T r)) with
        | some d => d
        | none => .tup [.str "distances"] := by
    unfold dpD faults
    rw [List.head?_append, head_filterMap, head_flatMap]
    simp only [head_filterMap]
    cases (chK n 2).findSome? (sameP T) with
    | some d => rfl
    | none =>
      cases (chK n 2).findSome? (fun r => (List.range n).findSome? (shortP T r)) <;> rfl
  have l1 : sFor (iL (eCall G.F_choices [.va (e1 oLen (eP 0)), .va (eC (.int 2))])) (gT [(gN 1), (gN 2)]) (sIf (tB (e2 oEq (e2 oIx (eIxP 0 (eV 1)) (eV 2)) (eC (.int 0)))) (sRet (eTup (eCons (eC (.str "same")) (eCons (eV 1) (eCons (eV 2) eNil))))) sNil) [some (.v (tt T)), none, none, none] = (match ((chK n 2).findSome? (sameP T)).map Vl.v with | none => .nxt [some (.v (tt T)), x1, y1, none] | some x => .ret x [some (.v (tt T)), x1, y1, none]) := by
    rw [s_sFor, show iL (eCall G.F_choices [.va (e1 oLen (eP 0)), .va (eC (.int 2))]) [some (.v (tt T)), none, none, none] = .ok ((chK n 2).map oi) [some (.v (tt T)), none, none, none] by simp [lT, hch']]
    exact h1
  have l2 : sFor (iL (eCall G.F_choices [.va (e1 oLen (eP 0)), .va (eC (.int 2))])) (gT [(gN 1), (gN 2)]) (sFor (iR1 (e1 oLen (eP 0))) (gN 3) (sIf (tB (e2 oLt (e2 oAdd (e2 oIx (eIxP 0 (eV 1)) (eV 3)) (e2 oIx (eIxP 0 (eV 3)) (eV 2))) (e2 oIx (eIxP 0 (eV 1)) (eV 2)))) (sRet (eTup (eCons (eC (.str "short")) (eCons (eV 1) (eCons (eV 3) (eCons (eV 2) eNil)))))) sNil)) [some (.v (tt T)), x1, y1, none] = (match ((chK n 2).findSome? (fun r => (List.range n).findSome? (shortP T r))).map Vl.v with | none => .nxt [some (.v (tt T)), x2, y2, z2] | some x => .ret x [some (.v (tt T)), x2, y2, z2]) := by
    rw [s_sFor, show iL (eCall G.F_choices [.va (e1 oLen (eP 0)), .va (eC (.int 2))]) [some (.v (tt T)), x1, y1, none] = .ok ((chK n 2).map oi) [some (.v (tt T)), x1, y1, none] by simp [lT, hch']]
    exact h2
  generalize sFor (iL (eCall G.F_choices [.va (e1 oLen (eP 0)), .va (eC (.int 2))])) (gT [(gN 1), (gN 2)]) (sIf (tB (e2 oEq (e2 oIx (eIxP 0 (eV 1)) (eV 2)) (eC (.int 0)))) (sRet (eTup (eCons (eC (.str "same")) (eCons (eV 1) (eCons (eV 2) eNil))))) sNil) = Y at l1 ⊢
  generalize sFor (iL (eCall G.F_choices [.va (e1 oLen (eP 0)), .va (eC (.int 2))])) (gT [(gN 1), (gN 2)]) (sFor (iR1 (e1 oLen (eP 0))) (gN 3) (sIf (tB (e2 oLt (e2 oAdd (e2 oIx (eIxP 0 (eV 1)) (eV 3)) (e2 oIx (eIxP 0 (eV 3)) (eV 2))) (e2 oIx (eIxP 0 (eV 1)) (eV 2)))) (sRet (eTup (eCons (eC (.str "short")) (eCons (eV 1) (eCons (eV 3) (eCons (eV 2) eNil)))))) sNil)) = Z at l2 ⊢
  rw [ef]
  cases q1 : (chK n 2).findSome? (sameP T) with
  | some d => rw [q1] at l1; simp [hk, l1]
  | none =>
    rw [q1] at l1
    cases q2 : (chK n 2).findSome? (fun r => (List.range n).findSome? (shortP T r)) with
    | some d => rw [q2] at l2; simp [hk, l1, l2]
    | none => rw [q2] at l2; simp [hk, l1, l2]
end Fx
end

section
set_option linter.all false
set_option maxRecDepth 10000
namespace Fx
/-- a comprehension with any target, nothing else changed -/
theorem compGoG {vs : List Nat} {g : D → En → Option En} {t : M Bool} {x : M Vl} {e : En} (P : D → Bool) (f : D → D) (e' : D → En) : ∀ (l acc : List D),
    (∀ d ∈ l, g d e = some (e' d) ∧ t (e' d) = .ok (P d) (e' d) ∧ hide (e' d) vs = e) → (∀ d ∈ l, P d = true → ∃ y, x (e' d) = .ok y (e' d) ∧ y.d = some (f d)) →
    compGo vs g t x l acc e = .ok (acc ++ (l.filter P).map f) e
  | [], acc, _, _ => by simp [compGo]
  | d :: l, acc, ht, hx => by
    obtain ⟨h1, h2, h3⟩ := ht d (by simp)
    unfold compGo
    simp only [h1, h2]
    cases hp : P d with
    | false =>
      simp only [h3]
      rw [compGoG P f e' l acc (fun d q => ht d (by simp [q])) (fun d q => hx d (by simp [q]))]
      simp [hp]
    | true =>
      obtain ⟨y, h4, h5⟩ := hx d (by simp) hp
      simp only [h4, h5, h3]
      rw [compGoG P f e' l _ (fun d q => ht d (by simp [q])) (fun d q => hx d (by simp [q]))]
      simp [hp]
theorem eCompG {vs : List Nat} {it : M (List D)} {g : D → En → Option En} {t : M Bool} {x : M Vl} {e e1 : En} {l : List D} (P : D → Bool) (f : D → D) (e' : D → En) (hit : it e = .ok l e1) (hl : l.length ≤ lim) (hh : hide e1 vs = e1) (hu : unhide e1 e1 vs = e1)
    (ht : ∀ d ∈ l, g d e1 = some (e' d) ∧ t (e' d) = .ok (P d) (e' d) ∧ hide (e' d) vs = e1) (hx : ∀ d ∈ l, P d = true → ∃ y, x (e' d) = .ok y (e' d) ∧ y.d = some (f d)) :
    eComp vs it g t x e = .ok (.o ((l.filter P).map f)) e1 := by
  have h := compGoG (vs := vs) P f e' l [] ht hx
  unfold eComp
  simp only [hit, Rs.then, hl, if_true, hh, h, List.nil_append, hu]
theorem mem_ch2 {n a b : Nat} (hab : a < b) (hb : b < n) : [a, b] ∈ chK n 2 := by
  unfold chK chStep
  refine List.mem_flatMap.mpr ⟨[a], ?_, ?_⟩
  · unfold chK chStep
    refine List.mem_flatMap.mpr ⟨[], by simp [chK], ?_⟩
    refine List.mem_map.mpr ⟨a, ?_, rfl⟩
    rw [List.mem_range'_1]
    simp [lo]; omega
  · refine List.mem_map.mpr ⟨b, ?_, rfl⟩
    rw [List.mem_range'_1]
    simp [lo]; omega
theorem faults_nil {T : List (List Int)} {n : Nat} (h : Dst n T) : faults T n = [] := by
  unfold faults
  rw [List.append_eq_nil_iff]
  constructor
  · rw [List.filterMap_eq_nil_iff]
    intro r hr
    obtain ⟨a, b, rfl, hab, hb⟩ := ch2 hr
    have := h.ps a b (by omega) hb (by omega)
    unfold sameP a0 a1
    rw [if_neg (by simp; omega)]
  · rw [List.flatMap_eq_nil_iff]
    intro r hr
    obtain ⟨a, b, rfl, hab, hb⟩ := ch2 hr
    rw [List.filterMap_eq_nil_iff]
    intro c hc
    rw [List.mem_range] at hc
    have := h.tr c a b hc (by omega) hb
    unfold shortP a0 a1
    rw [if_neg (by simp; omega)]
theorem faults_dst {T : List (List Int)} {n : Nat} (hT : TabI n 1000 T) (h : faults T n = []) : Dst n T := by
  unfold faults at h
  rw [List.append_eq_nil_iff, List.filterMap_eq_nil_iff, List.flatMap_eq_nil_iff] at h
  obtain ⟨h1, h2⟩ := h
  have ps : ∀ i j, i < j → j < n → 0 < at2 T i j := fun i j hij hj => by
    have := h1 _ (mem_ch2 hij hj)
    unfold sameP a0 a1 at this
    have h3 := (hT.rg i j (by omega) hj).1
    simp at this
    omega
  have tr : ∀ m i j, m < n → i < j → j < n → at2 T i j ≤ at2 T i m + at2 T m j := fun m i j hm hij hj => by
    have h3 := h2 _ (mem_ch2 hij hj)
    rw [List.filterMap_eq_nil_iff] at h3
    have := h3 m (by simpa using hm)
    unfold shortP a0 a1 at this
    simp at this
    omega
  refine ⟨hT, fun i j hi hj hij => ?_, fun m i j hm hi hj => ?_⟩
  · rcases Nat.lt_or_ge i j with q | q
    · exact ps i j q hj
    · rw [hT.sy i j hi hj]; exact ps j i (by omega) hi
  · rcases Nat.lt_trichotomy i j with q | q | q
    · exact tr m i j hm q hj
    · subst q
      have h1 := hT.dg i hi
      have h2 := (hT.rg i m hi hm).1
      have h3 := (hT.rg m i hm hi).1
      omega
    · have h1 := tr m j i hm q hi
      rw [hT.sy i j hi hj, hT.sy i m hi hm, hT.sy m j hm hj]
      omega
theorem fault_form {T : List (List Int)} {n : Nat} {d : D} (h : d ∈ faults T n) : (∃ a b, a < b ∧ b < n ∧ d = .tup [.str "same", .int (a : Nat), .int (b : Nat)] ∧ at2 T a b = 0) ∨ (∃ a b c, a < b ∧ b < n ∧ c < n ∧ d = .tup [.str "short", .int (a : Nat), .int (c : Nat), .int (b : Nat)] ∧ at2 T a c + at2 T c b < at2 T a b) := by
  unfold faults at h
  rcases List.mem_append.mp h with h | h
  · left
    obtain ⟨r, hr, h⟩ := List.mem_filterMap.mp h
    obtain ⟨a, b, rfl, hab, hb⟩ := ch2 hr
    unfold sameP a0 a1 at h
    split at h
    · rename_i q
      cases h
      exact ⟨a, b, hab, hb, rfl, q⟩
    · cases h
  · right
    obtain ⟨r, hr, h⟩ := List.mem_flatMap.mp h
    obtain ⟨a, b, rfl, hab, hb⟩ := ch2 hr
    obtain ⟨c, hc, h⟩ := List.mem_filterMap.mp h
    unfold shortP a0 a1 at h
    split at h
    · rename_i q
      cases h
      exact ⟨a, b, c, hab, hb, by simpa using hc, rfl, q⟩
    · cases h
theorem dpD_str1 (T : List (List Int)) (n : Nat) : isStr1 "distances" (dpD T n) = (faults T n).isEmpty := by
  unfold dpD
  cases h : faults T n with
  | nil => simp [isStr1, isStr]
  | cons d r =>
    have hd : d ∈ faults T n := by rw [h]; simp
    rcases fault_form hd with ⟨a, b, _, _, rfl, _⟩ | ⟨a, b, c, _, _, _, rfl, _⟩ <;> simp [isStr1]
def tErr (c : String) : Ex := ⟨"TableError", [("code", .str c)]⟩
theorem check_distances_ok {T : List (List Int)} {n : Nat} (hT : IsTab T) (lT : T.length = n) (h : faults T n = []) : G.F_check_distances [.v (tt T)] = .ok (.v .non) [] := by
  have h1 := distance_paper_ok hT lT
  have h2 := dpD_str1 T n
  rw [h] at h2
  unfold G.F_check_distances G.c_check_distances
  simp [h1, eq_str1, h2]
theorem check_distances_bad {T : List (List Int)} {n : Nat} (hT : IsTab T) (lT : T.length = n) (h : faults T n ≠ []) : G.F_check_distances [.v (tt T)] = .ex (tErr "distances") := by
  have h1 := distance_paper_ok hT lT
  have h2 := dpD_str1 T n
  have h3 : (faults T n).isEmpty = false := by
    cases q : faults T n with
    | nil => exact absurd q h
    | cons _ _ => rfl
  rw [h3] at h2
  unfold G.F_check_distances G.c_check_distances
  simp [h1, eq_str1, h2, tErr]
end Fx
end

section
set_option linter.all false
set_option maxRecDepth 10000
namespace Fx
def mxR (r : List Int) : Int := (maxL r).getD 0
def mnR (r : List Int) : Int := (minL r).getD 0
theorem maxL_some {r : List Int} (h : r ≠ []) : maxL r = some (mxR r) := by
  cases r with
  | nil => exact absurd rfl h
  | cons a l => rfl
theorem minL_some {r : List Int} (h : r ≠ []) : minL r = some (mnR r) := by
  cases r with
  | nil => exact absurd rfl h
  | cons a l => rfl
theorem oMaxL_ti {r : List Int} (h : r ≠ []) : oMaxL (.v (ti r)) = some (.v (.int (mxR r))) := by
  unfold oMaxL
  simp [ints_map, maxL_some h]
theorem oMinL_ti {r : List Int} (h : r ≠ []) : oMinL (.v (ti r)) = some (.v (.int (mnR r))) := by
  unfold oMinL
  simp [ints_map, minL_some h]
theorem oMaxL_o {r : List Int} (h : r ≠ []) : oMaxL (.o (r.map .int)) = some (.v (.int (mxR r))) := by
  unfold oMaxL
  simp [ints_map, maxL_some h]
theorem oMinL_o {r : List Int} (h : r ≠ []) : oMinL (.o (r.map .int)) = some (.v (.int (mnR r))) := by
  unfold oMinL
  simp [ints_map, minL_some h]
def D.ivs : D → List Int
  | .tup l => l.map D.iv
  | .lst l => l.map D.iv
  | _ => []
@[simp] theorem ivs_ti (r : List Int) : (ti r).ivs = r := by simp [ti, D.ivs, D.iv, Function.comp_def]
theorem row_ne {T : List (List Int)} (hT : IsTab T) {r : List Int} (hr : r ∈ T) : r ≠ [] := by
  intro z
  have h1 := hT.sq r hr
  have h2 := hT.n1
  rw [z] at h1
  simp at h1
  omega
theorem tab_ne {T : List (List Int)} (hT : IsTab T) : T ≠ [] := by
  intro z
  have h2 := hT.n1
  rw [z] at h2
  simp at h2
theorem map_ti {T : List (List Int)} (f : List Int → Int) : (T.map ti).map (fun d => D.int (f d.ivs)) = (T.map f).map .int := by
  rw [List.map_map, List.map_map]
  refine List.map_congr_left fun r _ => ?_
  simp
/-- [max(row) for row in table], wherever it stands -/
theorem maxes {T : List (List Int)} (hT : IsTab T) {k : Nat} {it : M (List D)} {e f1 : En} (hit : it e = .ok (T.map ti) f1) (hk : f1[k]? = some none) : eComp [k] it (gN k) tYes (e1 oMaxL (eP k)) e = .ok (.o ((T.map mxR).map .int)) f1 := by
  have hlt : k < f1.length := by
    rcases Nat.lt_or_ge k f1.length with q | q
    · exact q
    · rw [List.getElem?_eq_none q] at hk; cases hk
  have h := eCompA (k := k) (it := it) (x := e1 oMaxL (eP k)) (e := e) (e1 := f1) (l := T.map ti) (fun d => .int (mxR d.ivs)) hit (by rw [List.length_map]; have := hT.n8; unfold lim; omega) hk (fun d hd => by
    obtain ⟨r, hr, rfl⟩ := List.mem_map.mp hd
    exact ⟨.v (.int (mxR r)), by simp [hlt, oMaxL_ti (row_ne hT hr)], by simp⟩)
  rw [map_ti mxR] at h
  exact h
theorem enum_ti (r : List Int) : enumD 0 (r.map .int) = (List.range r.length).map fun (k : Nat) => D.tup [.int (k : Int), .int (r.getD k 0)] := by
  have key : ∀ (r : List Int) (j : Nat), enumD j (r.map .int) = (List.range r.length).map fun (k : Nat) => D.tup [.int ((j + k : Nat) : Int), .int (r.getD k 0)] := by
    intro r
    induction r with
    | nil => intro j; rfl
    | cons a r ih =>
      intro j
      rw [List.map_cons, List.length_cons, List.range_succ_eq_map, List.map_cons, List.map_map]
      unfold enumD
      rw [ih (j + 1)]
      congr 1
      refine List.map_congr_left fun k _ => ?_
      simp only [Function.comp]
      congr 3
      rw [show j + (k + 1) = j + 1 + k by omega]
  rw [key r 0]
  refine List.map_congr_left fun k _ => ?_
  simp
def D.n0 : D → Nat
  | .tup (a :: _) => a.nat
  | _ => 0
def radD (T : List (List Int)) : D := .tup [.int (mnR (T.map mxR)), oi ((List.range T.length).filter fun k => decide ((T.map mxR).getD k 0 = mnR (T.map mxR)))]
end Fx
end

section
set_option linter.all false
set_option maxRecDepth 10000
namespace Fx
mutual
theorem eq_refl : ∀ d : D, D.eq d d = true
  | .non => rfl
  | .bl b => by simp [D.eq]
  | .int i => by simp [D.eq]
  | .str s => by simp [D.eq]
  | .tup l => by simp only [D.eq]; exact eqs_refl l
  | .lst l => by simp only [D.eq]; exact eqs_refl l
theorem eqs_refl : ∀ l : List D, D.eqs l l = true
  | [] => rfl
  | a :: l => by simp only [D.eqs, eq_refl a, eqs_refl l, Bool.and_self]
end
theorem oNe_self (d : D) (h : d.dep ≤ 64) : oNe (.v d) (.v d) = some (.v (.bl false)) := by
  rw [oNe_sm _ _ h, eq_refl]
  rfl
theorem tab_floyd {n : Nat} {top : Int} {T : List (List Int)} (h : TabI n top T) : TabI n top (floyd n T) := by
  have hnn : Nn n (at2 T) := ⟨fun i j hi hj => (h.rg i j hi hj).1, fun i hi => h.dg i hi⟩
  obtain ⟨sq, e⟩ := floyd_at h.sq hnn
  have le := Nat.le_refl n
  have nn := nn_fl hnn n le
  refine ⟨sq, fun a b ha hb => ?_, fun a b ha hb => ?_, fun a ha => ?_⟩
  · rw [e a b ha hb, e b a hb ha]; exact fl_sym h.sy n le a b ha hb
  · rw [e a b ha hb]
    have h1 := fl_le (n := n) (f := at2 T) n a b
    have h2 := (h.rg a b ha hb).2
    have h3 := nn.pos a b ha hb
    omega
  · rw [e a a ha ha]; exact nn.dg a ha
theorem tri_floyd {n : Nat} {top : Int} {T : List (List Int)} (h : TabI n top T) : ∀ m i j, m < n → i < n → j < n → at2 (floyd n T) i j ≤ at2 (floyd n T) i m + at2 (floyd n T) m j := fun m i j hm hi hj => by
  have hnn : Nn n (at2 T) := ⟨fun i j hi hj => (h.rg i j hi hj).1, fun i hi => h.dg i hi⟩
  obtain ⟨sq, e⟩ := floyd_at h.sq hnn
  rw [e i j hi hj, e i m hi hm, e m j hm hj]
  exact fl_tri hnn n (Nat.le_refl n) m hm i j hi hj
theorem le_floyd {n : Nat} {top : Int} {T : List (List Int)} (h : TabI n top T) {i j : Nat} (hi : i < n) (hj : j < n) : at2 (floyd n T) i j ≤ at2 T i j := by
  have hnn : Nn n (at2 T) := ⟨fun i j hi hj => (h.rg i j hi hj).1, fun i hi => h.dg i hi⟩
  obtain ⟨sq, e⟩ := floyd_at h.sq hnn
  rw [e i j hi hj]
  exact fl_le (n := n) n i j
theorem floyd_same {n : Nat} {top : Int} {T : List (List Int)} (h : TabI n top T) (ht : ∀ m i j, m < n → i < n → j < n → at2 T i j ≤ at2 T i m + at2 T m j) : floyd n T = T :=
  floyd_id h.sq ⟨fun i j hi hj => (h.rg i j hi hj).1, fun i hi => h.dg i hi⟩ ht
/-- a comprehension whose name holds data before and after -/
theorem eComp1V {k : Nat} {it : M (List D)} {t : M Bool} {x : M Vl} {e f1 : En} {l : List D} {d0 : D} (P : D → Bool) (f : D → D) (hit : it e = .ok l f1) (hl : l.length ≤ lim) (hk : f1[k]? = some (some (.v d0)))
    (ht : ∀ d ∈ l, t (f1.set k (some (.v d))) = .ok (P d) (f1.set k (some (.v d)))) (hx : ∀ d ∈ l, P d = true → ∃ y, x (f1.set k (some (.v d))) = .ok y (f1.set k (some (.v d))) ∧ y.d = some (f d)) :
    eComp [k] it (gN k) t x e = .ok (.o ((l.filter P).map f)) f1 := by
  have h := compGo1 (k := k) (e := f1) P f l [] ht hx
  unfold eComp
  simp only [hit, Rs.then, hl, if_true, hide, h, unhide, List.nil_append, hk, List.set_set]
  have : f1.set k (keepD (some (some (.v d0)))) = f1 := by
    show f1.set k (some (.v d0)) = f1
    apply List.ext_getElem?
    intro j
    by_cases hj : k = j
    · subst hj
      rw [List.getElem?_set_self (by rcases Nat.lt_or_ge k f1.length with q | q; exact q; rw [List.getElem?_eq_none q] at hk; cases hk), hk]
    · rw [List.getElem?_set_ne hj]
  rw [this]
theorem eCompAV {k : Nat} {it : M (List D)} {x : M Vl} {e f1 : En} {l : List D} {d0 : D} (f : D → D) (hit : it e = .ok l f1) (hl : l.length ≤ lim) (hk : f1[k]? = some (some (.v d0)))
    (hx : ∀ d ∈ l, ∃ y, x (f1.set k (some (.v d))) = .ok y (f1.set k (some (.v d))) ∧ y.d = some (f d)) :
    eComp [k] it (gN k) tYes x e = .ok (.o (l.map f)) f1 := by
  have h := eComp1V (t := tYes) (fun _ => true) f hit hl hk (fun _ _ => rfl) (fun d q _ => hx d q)
  rw [List.filter_eq_self.mpr (by simp)] at h
  exact h
/-- a table of numbers, by rows -/
theorem fnT_tt (n : Nat) (f : Nat → Nat → Int) : (rng 0 n).map (fun d => ti ((List.range n).map fun j => f d.nat j)) = (fnT n f).map ti := by
  unfold rng fnT
  rw [List.map_map, List.map_map]
  refine List.map_congr_left fun i _ => ?_
  simp [D.nat]
theorem row_ints (n : Nat) (g : Nat → Int) : (rng 0 n).map (fun c => D.int (g c.nat)) = ((List.range n).map g).map .int := by
  unfold rng
  rw [List.map_map, List.map_map]
  refine List.map_congr_left fun i _ => ?_
  simp [D.nat]
theorem sub_perm {α : Type} [DecidableEq α] : ∀ (l m : List α), l.Nodup → (∀ x ∈ l, x ∈ m) → ∃ r, (l ++ r).Perm m
  | [], m, _, _ => ⟨m, List.Perm.refl _⟩
  | a :: l, m, hn, hs => by
    obtain ⟨h1, h2⟩ := List.nodup_cons.mp hn
    have ha := hs a (by simp)
    obtain ⟨r, hr⟩ := sub_perm l (m.erase a) h2 fun x hx => (List.mem_erase_of_ne (fun (q : x = a) => h1 (q ▸ hx))).mpr (hs x (by simp [hx]))
    exact ⟨r, (hr.cons a).trans (List.perm_cons_erase ha).symm⟩
theorem sub_len {α : Type} [DecidableEq α] {l m : List α} (hn : l.Nodup) (hs : ∀ x ∈ l, x ∈ m) : l.length ≤ m.length := by
  obtain ⟨r, hr⟩ := sub_perm l m hn hs
  have := hr.length_eq
  rw [List.length_append] at this
  omega
end Fx
end

section
set_option linter.all false
set_option maxRecDepth 10000
namespace Fx
/-! greatest and least of rows -/
theorem foldl_max : ∀ (l : List Int) (a : Int), (l.foldl max a = a ∨ l.foldl max a ∈ l) ∧ a ≤ l.foldl max a ∧ ∀ x ∈ l, x ≤ l.foldl max a
  | [], a => ⟨.inl rfl, Int.le_refl _, by simp⟩
  | b :: l, a => by
    obtain ⟨h1, h2, h3⟩ := foldl_max l (max a b)
    rw [List.foldl_cons]
    refine ⟨?_, by omega, fun x hx => ?_⟩
    · rcases h1 with h | h
      · rw [h]
        rcases Int.le_total a b with z | z
        · right; rw [Int.max_eq_right z]; simp
        · left; rw [Int.max_eq_left z]
      · right; simp [h]
    · rcases List.mem_cons.mp hx with rfl | hx
      · omega
      · exact h3 x hx
theorem foldl_min : ∀ (l : List Int) (a : Int), (l.foldl min a = a ∨ l.foldl min a ∈ l) ∧ l.foldl min a ≤ a ∧ ∀ x ∈ l, l.foldl min a ≤ x
  | [], a => ⟨.inl rfl, Int.le_refl _, by simp⟩
  | b :: l, a => by
    obtain ⟨h1, h2, h3⟩ := foldl_min l (min a b)
    rw [List.foldl_cons]
    refine ⟨?_, by omega, fun x hx => ?_⟩
    · rcases h1 with h | h
      · rw [h]
        rcases Int.le_total a b with z | z
        · left; rw [Int.min_eq_left z]
        · right; rw [Int.min_eq_right z]; simp
      · right; simp [h]
    · rcases List.mem_cons.mp hx with rfl | hx
      · omega
      · exact h3 x hx
theorem mxR_mem {r : List Int} (h : r ≠ []) : mxR r ∈ r := by
  cases r with
  | nil => exact absurd rfl h
  | cons a l =>
    show l.foldl max a ∈ a :: l
    rcases (foldl_max l a).1 with q | q
    · rw [q]; simp
    · simp [q]
theorem mxR_ge {r : List Int} {x : Int} (h : x ∈ r) : x ≤ mxR r := by
  cases r with
  | nil => simp at h
  | cons a l =>
    show x ≤ l.foldl max a
    obtain ⟨_, h2, h3⟩ := foldl_max l a
    rcases List.mem_cons.mp h with rfl | h
    · exact h2
    · exact h3 x h
theorem mnR_mem {r : List Int} (h : r ≠ []) : mnR r ∈ r := by
  cases r with
  | nil => exact absurd rfl h
  | cons a l =>
    show l.foldl min a ∈ a :: l
    rcases (foldl_min l a).1 with q | q
    · rw [q]; simp
    · simp [q]
theorem mnR_le {r : List Int} {x : Int} (h : x ∈ r) : mnR r ≤ x := by
  cases r with
  | nil => simp at h
  | cons a l =>
    show l.foldl min a ≤ x
    obtain ⟨_, h2, h3⟩ := foldl_min l a
    rcases List.mem_cons.mp h with rfl | h
    · exact h2
    · exact h3 x h
theorem mem_getD {r : List Int} {x : Int} (h : x ∈ r) : ∃ k, k < r.length ∧ r.getD k 0 = x := by
  obtain ⟨k, hk, rfl⟩ := List.getElem_of_mem h
  exact ⟨k, hk, by simp [List.getD, hk]⟩
theorem getD_memI {r : List Int} {k : Nat} (h : k < r.length) : r.getD k 0 ∈ r := by simp [List.getD, h]
/-- how far the farthest is -/
def ecc (T : List (List Int)) (i : Nat) : Int := (T.map mxR).getD i 0
section
variable {n : Nat} {top : Int} {T : List (List Int)}
theorem ecc_row (h : TabI n top T) {i : Nat} (hi : i < n) : ecc T i = mxR (T.getD i []) := by
  unfold ecc
  have := h.sq.len
  simp [List.getD, show i < T.length by omega]
theorem row_ne' (h : TabI n top T) {i : Nat} (hi : i < n) : T.getD i [] ≠ [] := by
  have := h.sq.row i hi
  intro z
  rw [z] at this
  simp at this
  omega
theorem ecc_ge (h : TabI n top T) {i j : Nat} (hi : i < n) (hj : j < n) : at2 T i j ≤ ecc T i := by
  rw [ecc_row h hi]
  exact mxR_ge (getD_memI (by rw [h.sq.row i hi]; exact hj))
theorem ecc_at (h : TabI n top T) {i : Nat} (hi : i < n) : ∃ j, j < n ∧ at2 T i j = ecc T i := by
  rw [ecc_row h hi]
  obtain ⟨j, hj, e⟩ := mem_getD (mxR_mem (row_ne' h hi))
  rw [h.sq.row i hi] at hj
  exact ⟨j, hj, e⟩
theorem ecc_mem (h : TabI n top T) {i : Nat} (hi : i < n) : ecc T i ∈ T.map mxR := getD_memI (by have := h.sq.len; simp; omega)
theorem mem_ecc (h : TabI n top T) {x : Int} (hx : x ∈ T.map mxR) : ∃ i, i < n ∧ ecc T i = x := by
  obtain ⟨i, hi, e⟩ := mem_getD hx
  have := h.sq.len
  exact ⟨i, by simpa [this] using hi, e⟩
theorem ws_ne (h : TabI n top T) (h1 : 1 ≤ n) : T.map mxR ≠ [] := by
  have := h.sq.len
  intro z
  have h2 := congrArg List.length z
  simp at h2
  rw [h2] at this
  simp at this
  omega
end
/-! the place of the greatest -/
theorem idx_int : ∀ (r : List Int) (m : Int), m ∈ r → ∃ k, k < r.length ∧ (r.map D.int).findIdx? (fun z => D.eq z (.int m)) = some k ∧ r.getD k 0 = m
  | [], m, h => by simp at h
  | a :: r, m, h => by
    by_cases q : a = m
    · subst q
      exact ⟨0, by simp, by simp [List.findIdx?_cons, D.eq], rfl⟩
    · rcases List.mem_cons.mp h with z | h
      · exact absurd z.symm q
      · obtain ⟨k, h1, h2, h3⟩ := idx_int r m h
        refine ⟨k + 1, by simpa using h1, ?_, by simpa using h3⟩
        rw [List.map_cons, List.findIdx?_cons, h2]
        simp [D.eq, q]
theorem fIx_ti {r : List Int} (h : r ≠ []) : ∃ k, k < r.length ∧ fIx (r.map .int) (.int (mxR r)) = some (.int (k : Int)) ∧ r.getD k 0 = mxR r := by
  obtain ⟨k, h1, h2, h3⟩ := idx_int r (mxR r) (mxR_mem h)
  exact ⟨k, h1, by unfold fIx; rw [h2]; rfl, h3⟩
end Fx
end

section
set_option linter.all false
set_option maxRecDepth 10000
namespace Fx
/-! rows above a table, lowered -/
theorem foldl_succN {α : Type} (f : α → Nat → α) (a : α) (m : Nat) : (List.range (m + 1)).foldl f a = f ((List.range m).foldl f a) m := by
  rw [List.range_succ, List.foldl_append]
  rfl
/-- a row over a table: no pair is nearer than it tells -/
structure Ovr (n : Nat) (T : List (List Int)) (r : List Int) : Prop where
  len : r.length = n
  pos : ∀ i, i < n → 0 ≤ r.getD i 0
  ge : ∀ i j, i < n → j < n → i ≠ j → at2 T i j ≤ r.getD i 0 + r.getD j 0
/-- the least that one place may hold -/
def lowV (T : List (List Int)) (n : Nat) (f : List Int) (at' : Nat) : Int := mxR (0 :: ((List.range n).filter fun to => !decide (to = at')).map fun to => at2 T at' to - f.getD to 0)
def lowS (T : List (List Int)) (n : Nat) (f : List Int) (at' : Nat) : List Int := f.set at' (lowV T n f at')
def lowL (T : List (List Int)) (n : Nat) (f : List Int) : List Int := (List.range n).foldl (lowS T n) f
theorem lowV_ge {T : List (List Int)} {n : Nat} {f : List Int} {a b : Nat} (hb : b < n) (hab : b ≠ a) : at2 T a b - f.getD b 0 ≤ lowV T n f a := by
  unfold lowV
  refine mxR_ge (List.mem_cons.mpr (.inr (List.mem_map.mpr ⟨b, ?_, rfl⟩)))
  rw [List.mem_filter]
  simp [hb, hab]
theorem lowV_pos (T : List (List Int)) (n : Nat) (f : List Int) (a : Nat) : 0 ≤ lowV T n f a := mxR_ge (by simp)
theorem lowV_le {T : List (List Int)} {n : Nat} {f : List Int} {a : Nat} (h : Ovr n T f) (ha : a < n) : lowV T n f a ≤ f.getD a 0 := by
  unfold lowV
  rcases List.mem_cons.mp (mxR_mem (r := 0 :: ((List.range n).filter fun to => !decide (to = a)).map fun to => at2 T a to - f.getD to 0) (by simp)) with q | q
  · rw [q]; exact h.pos a ha
  · obtain ⟨b, hb, e⟩ := List.mem_map.mp q
    rw [List.mem_filter] at hb
    simp at hb
    have := h.ge a b ha hb.1 (fun z => hb.2 z.symm)
    omega
theorem lowS_get (T : List (List Int)) (n : Nat) (f : List Int) (a i : Nat) (ha : a < f.length) : (lowS T n f a).getD i 0 = if a = i then lowV T n f a else f.getD i 0 := by
  unfold lowS
  rw [getD_set]
  by_cases q : a = i
  · subst q; rw [if_pos ⟨rfl, ha⟩, if_pos rfl]
  · rw [if_neg (fun z => q z.1), if_neg q]
theorem lowS_ovr {T : List (List Int)} {n : Nat} {f : List Int} {a : Nat} (h : Ovr n T f) (hs : ∀ i j, i < n → j < n → at2 T i j = at2 T j i) (ha : a < n) : Ovr n T (lowS T n f a) := by
  have hla : a < f.length := by rw [h.len]; exact ha
  refine ⟨by unfold lowS; rw [List.length_set]; exact h.len, fun i hi => ?_, fun i j hi hj hij => ?_⟩
  · rw [lowS_get T n f a i hla]
    split
    · exact lowV_pos _ _ _ _
    · exact h.pos i hi
  · rw [lowS_get T n f a i hla, lowS_get T n f a j hla]
    by_cases q1 : a = i
    · subst q1
      rw [if_pos rfl, if_neg hij]
      have := lowV_ge (T := T) (f := f) (a := a) hj (fun z => hij z.symm)
      omega
    · rw [if_neg q1]
      by_cases q2 : a = j
      · subst q2
        rw [if_pos rfl]
        have := lowV_ge (T := T) (f := f) (a := a) hi (fun z => hij z)
        rw [hs a i ha hi] at this
        omega
      · rw [if_neg q2]; exact h.ge i j hi hj hij
theorem lowL_ovr {T : List (List Int)} {n : Nat} {f : List Int} (h : Ovr n T f) (hs : ∀ i j, i < n → j < n → at2 T i j = at2 T j i) : ∀ m, m ≤ n → Ovr n T ((List.range m).foldl (lowS T n) f) ∧ ∀ i, i < n → ((List.range m).foldl (lowS T n) f).getD i 0 ≤ f.getD i 0
  | 0, _ => ⟨h, fun _ _ => Int.le_refl _⟩
  | m + 1, hm => by
    obtain ⟨h1, h2⟩ := lowL_ovr h hs m (by omega)
    rw [foldl_succN]
    refine ⟨lowS_ovr h1 hs (by omega), fun i hi => ?_⟩
    rw [lowS_get _ _ _ _ _ (by rw [h1.len]; omega)]
    split
    · rename_i q
      subst q
      exact Int.le_trans (lowV_le h1 hi) (h2 m hi)
    · exact h2 i hi
end Fx
end

section
set_option linter.all false
set_option maxRecDepth 10000
namespace Fx
/-! rows of distances to one point more: gaps, fitting rows -/
/-- a comprehension whose items change other names; the place of an item is known -/
theorem compGoJ {k : Nat} {x : M Vl} (I : Nat → List D → En → Prop) : ∀ (l : List D) (i : Nat) (acc : List D) (e : En), I i acc e → (∀ j acc e d, I (i + j) acc e → l[j]? = some d → ∃ y z e3, x (e.set k (some (.v d))) = .ok y e3 ∧ y.d = some z ∧ I (i + j + 1) (acc ++ [z]) (e3.set k none)) →
    ∃ acc' e', compGo [k] (gN k) tYes x l acc e = .ok acc' e' ∧ I (i + l.length) acc' e'
  | [], i, acc, e, hi, _ => ⟨acc, e, by simp [compGo], by simpa using hi⟩
  | d :: l, i, acc, e, hi, h => by
    obtain ⟨y, z, e3, h1, h2, h3⟩ := h 0 acc e d (by simpa using hi) (by simp)
    obtain ⟨acc', e', h4, h5⟩ := compGoJ I l (i + 1) _ _ (by simpa using h3) fun j acc e d' hi' hd => by
      have := h (j + 1) acc e d' (by rw [show i + (j + 1) = i + 1 + j by omega]; exact hi') (by simpa using hd)
      rw [show i + 1 + j + 1 = i + (j + 1) + 1 by omega]
      exact this
    refine ⟨acc', e', ?_, by rw [List.length_cons, show i + (l.length + 1) = i + 1 + l.length by omega]; exact h5⟩
    unfold compGo
    simp only [s_gN, s_tYes, h1, h2, hide]
    exact h4
theorem eCompJ {k : Nat} {it : M (List D)} {x : M Vl} {e e1 : En} {l : List D} (I : Nat → List D → En → Prop) (hit : it e = .ok l e1) (hl : l.length ≤ lim) (hk : e1[k]? = some none) (h0 : I 0 [] e1)
    (h : ∀ j acc e d, j < l.length → I j acc e → l[j]? = some d → ∃ y z e3, x (e.set k (some (.v d))) = .ok y e3 ∧ y.d = some z ∧ I (j + 1) (acc ++ [z]) (e3.set k none)) : ∃ acc e2, eComp [k] it (gN k) tYes x e = .ok (.o acc) (e2.set k none) ∧ I l.length acc e2 := by
  obtain ⟨acc, e2, h1, h2⟩ := compGoJ (k := k) (x := x) I l 0 [] e1 h0 (fun j acc e d hi hd => by
    rw [Nat.zero_add] at hi ⊢
    refine h j acc e d ?_ hi hd
    rcases Nat.lt_or_ge j l.length with q | q
    · exact q
    · rw [List.getElem?_eq_none q] at hd; cases hd)
  refine ⟨acc, e2, ?_, by simpa using h2⟩
  unfold eComp
  simp only [hit, Rs.then, hl, if_true, hide, set_none hk, h1, unhide, hk]
  rfl
def ab (x : Int) : Int := if x < 0 then -x else x
theorem ab_le {x m : Int} : ab x ≤ m ↔ x ≤ m ∧ -x ≤ m := by unfold ab; split <;> omega
theorem ab_nn (x : Int) : 0 ≤ ab x := by unfold ab; split <;> omega
theorem ab_sym (x y : Int) : ab (x - y) = ab (y - x) := by unfold ab; split <;> split <;> omega
@[simp] theorem oAbs_int (i : Int) : oAbs (.v (.int i)) = some (.v (.int (ab i))) := rfl
theorem zipD_ints : ∀ r s : List Int, zipD (r.map .int) (s.map .int) = (r.zip s).map fun p => D.tup [.int p.1, .int p.2]
  | [], _ => by simp [zipD]
  | a :: r, [] => by simp [zipD]
  | a :: r, b :: s => by simp [zipD, zipD_ints r s]
def gapR (r s : List Int) : Int := mxR ((r.zip s).map fun p => ab (p.1 - p.2))
theorem zip_getD {r s : List Int} {n k : Nat} (hr : r.length = n) (hs : s.length = n) (hk : k < n) : (r.getD k 0, s.getD k 0) ∈ r.zip s := by
  have : (r.zip s)[k]? = some (r.getD k 0, s.getD k 0) := by
    rw [List.getElem?_zip_eq_some]
    exact ⟨get_of (by omega) 0, get_of (by omega) 0⟩
  exact List.mem_of_getElem? this
theorem zip_mem {r s : List Int} {n : Nat} {p : Int × Int} (hr : r.length = n) (hs : s.length = n) (h : p ∈ r.zip s) : ∃ k, k < n ∧ p = (r.getD k 0, s.getD k 0) := by
  obtain ⟨k, hk⟩ := List.getElem?_of_mem h
  rw [List.getElem?_zip_eq_some] at hk
  have h1 := hk.1
  have hl : k < r.length := by
    rcases Nat.lt_or_ge k r.length with q | q
    · exact q
    · rw [List.getElem?_eq_none q] at h1; cases h1
  exact ⟨k, by omega, by rw [getD_of hk.1, getD_of hk.2]⟩
theorem gapR_ge {r s : List Int} {n k : Nat} (hr : r.length = n) (hs : s.length = n) (hk : k < n) : ab (r.getD k 0 - s.getD k 0) ≤ gapR r s :=
  mxR_ge (List.mem_map.mpr ⟨_, zip_getD hr hs hk, rfl⟩)
theorem gapR_at {r s : List Int} {n : Nat} (hr : r.length = n) (hs : s.length = n) (h1 : 1 ≤ n) : ∃ k, k < n ∧ gapR r s = ab (r.getD k 0 - s.getD k 0) := by
  have hne : ((r.zip s).map fun p => ab (p.1 - p.2)) ≠ [] := by
    have := List.ne_nil_of_mem (zip_getD hr hs (show 0 < n by omega))
    intro z
    exact this (List.map_eq_nil_iff.mp z)
  obtain ⟨p, hp, e⟩ := List.mem_map.mp (mxR_mem hne)
  obtain ⟨k, hk, rfl⟩ := zip_mem hr hs hp
  exact ⟨k, hk, e.symm⟩
theorem gapR_sym {r s : List Int} {n : Nat} (hr : r.length = n) (hs : s.length = n) (h1 : 1 ≤ n) : gapR r s = gapR s r := by
  obtain ⟨a, ha, ea⟩ := gapR_at hr hs h1
  obtain ⟨b, hb, eb⟩ := gapR_at hs hr h1
  have h2 := gapR_ge hs hr ha
  have h3 := gapR_ge hr hs hb
  rw [ab_sym] at h2 h3
  omega
theorem gapR_self {r : List Int} {n : Nat} (hr : r.length = n) (h1 : 1 ≤ n) : gapR r r = 0 := by
  obtain ⟨a, ha, ea⟩ := gapR_at hr hr h1
  rw [ea, Int.sub_self]
  rfl
theorem gapR_tri {r s t : List Int} {n : Nat} (hr : r.length = n) (hs : s.length = n) (ht : t.length = n) (h1 : 1 ≤ n) : gapR r t ≤ gapR r s + gapR s t := by
  obtain ⟨a, ha, ea⟩ := gapR_at hr ht h1
  have h2 := gapR_ge hr hs ha
  have h3 := gapR_ge hs ht ha
  rw [ea]
  rw [ab_le] at h2 h3 ⊢
  omega
theorem gapR_nn {r s : List Int} {n : Nat} (hr : r.length = n) (hs : s.length = n) (h1 : 1 ≤ n) : 0 ≤ gapR r s := by
  obtain ⟨a, ha, ea⟩ := gapR_at hr hs h1
  rw [ea]; exact ab_nn _
theorem ext_getD {r s : List Int} {n : Nat} (hr : r.length = n) (hs : s.length = n) (h : ∀ k, k < n → r.getD k 0 = s.getD k 0) : r = s := by
  refine List.ext_getElem? fun k => ?_
  rcases Nat.lt_or_ge k n with q | q
  · rw [get_of (show k < r.length by omega) 0, get_of (show k < s.length by omega) 0, h k q]
  · rw [List.getElem?_eq_none (by omega), List.getElem?_eq_none (by omega)]
theorem gapR_zero {r s : List Int} {n : Nat} (hr : r.length = n) (hs : s.length = n) (h : gapR r s = 0) : r = s := ext_getD hr hs fun k hk => by
  have h2 := gapR_ge hr hs hk
  rw [h, ab_le] at h2
  omega
/-- a row that fits a table -/
structure Fit (n : Nat) (T : List (List Int)) (r : List Int) : Prop where
  len : r.length = n
  ps : ∀ i, i < n → 0 < r.getD i 0 ∧ r.getD i 0 ≤ 1000
  sum : ∀ i j, i < n → j < n → at2 T i j ≤ r.getD i 0 + r.getD j 0
  gap : ∀ i j, i < n → j < n → r.getD i 0 ≤ r.getD j 0 + at2 T i j
theorem check_glues_ok {T : List (List Int)} {r : List Int} (hl : r.length = T.length) (h : ∀ x ∈ r, 0 < x ∧ x ≤ 1000) (hn : r.length ≤ 1000) : G.F_check_row [.v (tt T), .v (ti r)] = .ok (.v .non) [] := by
  have hc := eCompA (k := 2) (it := iL (eV 1)) (x := eOr (e1 oNot (eCall G.F_is_integer [.va (eV 2)])) (e1 oNot (eChain oLt oLe (eC (.int 0)) (eV 2) (eC (.int 1000))))) (e := [some (.v (tt T)), some (.v (ti r)), none]) (e1 := [some (.v (tt T)), some (.v (ti r)), none]) (l := r.map .int) (fun _ => .bl false)
    (by simp) (by rw [List.length_map]; unfold lim; omega) rfl (fun d hd => by
      obtain ⟨x, hx, rfl⟩ := List.mem_map.mp hd
      obtain ⟨h1, h2⟩ := h x hx
      exact ⟨.v (.bl false), by simp [is_integer_int, h1, h2], rfl⟩)
  unfold G.F_check_row G.c_check_row
  generalize eComp [2] (iL (eV 1)) (gN 2) tYes (eOr (e1 oNot (eCall G.F_is_integer [.va (eV 2)])) (e1 oNot (eChain oLt oLe (eC (.int 0)) (eV 2) (eC (.int 1000))))) = Y at hc ⊢
  simp [hl, hc, -List.map_map]
def mpP (T : List (List Int)) (r : List Int) (q : List Nat) : Option D :=
  if r.getD (a0 q) 0 + r.getD (a1 q) 0 < at2 T (a0 q) (a1 q) then some (.tup [.str "sum", .int (a0 q : Nat), .int (a1 q : Nat)])
  else if at2 T (a0 q) (a1 q) < ab (r.getD (a0 q) 0 - r.getD (a1 q) 0) then some (.tup [.str "gap", .int (a0 q : Nat), .int (a1 q : Nat)]) else none
def mpD (T : List (List Int)) (r : List Int) (n : Nat) : D := ((chK n 2).findSome? (mpP T r)).getD (.tup [.str "fits"])
theorem more_paper_ok {T : List (List Int)} {n : Nat} {r : List Int} (hT : IsTab T) (hD : Dst n T) (hl : r.length = n) (h : ∀ x ∈ r, 0 < x ∧ x ≤ 1000) : G.F_more_paper [.v (tt T), .v (ti r)] = .ok (.v (mpD T r n)) [] := by
  have lT := hD.tab.sq.len
  have n8 := hT.n8
  have hcd := check_distances_ok hT lT (faults_nil hD)
  have hcr := check_glues_ok (T := T) (by rw [hl, lT]) h (by omega)
  have hch : G.F_choices [.v (.int (n : Int)), .v (.int 2)] = .ok (.v (.lst ((chK n 2).map oi))) [] := choices_ok (n := n) (k := 2) (by omega) (by omega)
  have rd : ∀ a b, a < n → b < n → ∃ r, T[a]? = some r ∧ r[b]? = some (at2 T a b) := fun a b ha hb => at_ok hT.sq (by omega) (by omega)
  unfold G.F_more_paper G.c_more_paper
  obtain ⟨e1, ⟨x1, y1, rfl⟩, h1⟩ := forGo_find (g := gT [(gN 2), (gN 3)]) (b := (sSeq (sIf (tB (e2 oLt (e2 oAdd (eIxP 1 (eV 2)) (eIxP 1 (eV 3))) (e2 oIx (eIxP 0 (eV 2)) (eV 3)))) (sRet (eTup (eCons (eC (.str "sum")) (eCons (eV 2) (eCons (eV 3) eNil))))) sNil)
  (sIf (tB (e2 oGt (e1 oAbs (e2 oSub (eIxP 1 (eV 2)) (eIxP 1 (eV 3)))) (e2 oIx (eIxP 0 (eV 2)) (eV 3)))) (sRet (eTup (eCons (eC (.str "gap")) (eCons (eV 2) (eCons (eV 3) eNil))))) sNil)))
    oi (fun e => ∃ x y, e = [some (.v (tt T)), some (.v (ti r)), x, y]) (fun q => (mpP T r q).map Vl.v) (chK n 2) [some (.v (tt T)), some (.v (ti r)), none, none] ⟨none, none, rfl⟩ (by
      rintro q hq e ⟨x, y, rfl⟩
      obtain ⟨a, b, rfl, hab, hb⟩ := ch2 hq
      obtain ⟨row, g1, g2⟩ := rd a b (by omega) hb
      refine ⟨[some (.v (tt T)), some (.v (ti r)), some (.v (.int (a : Int))), some (.v (.int (b : Int)))], [some (.v (tt T)), some (.v (ti r)), some (.v (.int (a : Int))), some (.v (.int (b : Int)))], by simp [oi], ⟨_, _, rfl⟩, ?_⟩
      unfold mpP a0 a1
      simp only [List.getD_cons_zero, List.getD_cons_succ]
      have i1 : r[a]? = some (r.getD a 0) := get_of (by omega) 0
      have i2 : r[b]? = some (r.getD b 0) := get_of (by omega) 0
      generalize r.getD a 0 = u at *
      generalize r.getD b 0 = v at *
      by_cases q1 : u + v < at2 T a b
      · simp [g1, g2, i1, i2, q1]
      · by_cases q2 : at2 T a b < ab (u - v)
        · simp [g1, g2, i1, i2, q1, q2]
        · simp [g1, g2, i1, i2, q1, q2])
  rw [findSome_map] at h1
  have ef : mpD T r n = match (chK n 2).findSome? (mpP T r) with
      | some d => d
      | none => .tup [.str "fits"] := by
    unfold mpD
    cases (chK n 2).findSome? (mpP T r) <;> rfl
  have l1 : sFor (iL (eCall G.F_choices [.va (e1 oLen (eP 0)), .va (eC (.int 2))])) (gT [(gN 2), (gN 3)]) (sSeq (sIf (tB (e2 oLt (e2 oAdd (eIxP 1 (eV 2)) (eIxP 1 (eV 3))) (e2 oIx (eIxP 0 (eV 2)) (eV 3)))) (sRet (eTup (eCons (eC (.str "sum")) (eCons (eV 2) (eCons (eV 3) eNil))))) sNil)
  (sIf (tB (e2 oGt (e1 oAbs (e2 oSub (eIxP 1 (eV 2)) (eIxP 1 (eV 3)))) (e2 oIx (eIxP 0 (eV 2)) (eV 3)))) (sRet (eTup (eCons (eC (.str "gap")) (eCons (eV 2) (eCons (eV 3) eNil))))) sNil)) [some (.v (tt T)), some (.v (ti r)), none, none] = (match ((chK n 2).findSome? (mpP T r)).map Vl.v with | none => .nxt [some (.v (tt T)), some (.v (ti r)), x1, y1] | some x => .ret x [some (.v (tt T)), some (.v (ti r)), x1, y1]) := by
    rw [s_sFor, show iL (eCall G.F_choices [.va (e1 oLen (eP 0)), .va (eC (.int 2))]) [some (.v (tt T)), some (.v (ti r)), none, none] = .ok ((chK n 2).map oi) [some (.v (tt T)), some (.v (ti r)), none, none] by simp [lT, hch]]
    exact h1
  generalize sFor (iL (eCall G.F_choices [.va (e1 oLen (eP 0)), .va (eC (.int 2))])) (gT [(gN 2), (gN 3)]) _ = Y at l1 ⊢
  rw [ef]
  cases q : (chK n 2).findSome? (mpP T r) with
  | none =>
    rw [q] at l1
    simp [hcd, hcr, l1]
  | some d =>
    rw [q] at l1
    simp [hcd, hcr, l1]
theorem Fit.mem {n : Nat} {T : List (List Int)} {r : List Int} (h : Fit n T r) : ∀ x ∈ r, 0 < x ∧ x ≤ 1000 := fun x hx => by
  obtain ⟨k, hk, rfl⟩ := mem_getD hx
  exact h.ps k (by rw [← h.len]; exact hk)
theorem Fit.fits {n : Nat} {T : List (List Int)} {r : List Int} (h : Fit n T r) (sy : ∀ i j, i < n → j < n → at2 T i j = at2 T j i) : mpD T r n = .tup [.str "fits"] := by
  unfold mpD
  have : (chK n 2).findSome? (mpP T r) = none := by
    rw [List.findSome?_eq_none_iff]
    intro q hq
    obtain ⟨a, b, rfl, hab, hb⟩ := ch2 hq
    have h1 := h.sum a b (by omega) hb
    have h2 := h.gap a b (by omega) hb
    have h3 := h.gap b a hb (by omega)
    rw [← sy a b (by omega) hb] at h3
    unfold mpP a0 a1
    simp only [List.getD_cons_zero, List.getD_cons_succ]
    rw [if_neg (by omega), if_neg]
    have : ab (r.getD a 0 - r.getD b 0) ≤ at2 T a b := by rw [ab_le]; omega
    omega
  rw [this]
  rfl
end Fx
end

section
set_option linter.all false
set_option maxRecDepth 10000
namespace Fx
/-! with_point -/
theorem enumD_get : ∀ (l : List D) (k i : Nat), (enumD k l)[i]? = (l[i]?).map fun x => D.tup [.int ((k + i : Nat) : Int), x]
  | [], _, _ => by simp [enumD]
  | a :: l, k, 0 => by simp [enumD]
  | a :: l, k, i + 1 => by
    unfold enumD
    rw [List.getElem?_cons_succ, List.getElem?_cons_succ, enumD_get l (k + 1) i]
    have : k + 1 + i = k + (i + 1) := by omega
    rw [this]
theorem enumD_len : ∀ (l : List D) (k : Nat), (enumD k l).length = l.length
  | [], _ => rfl
  | a :: l, k => by simp [enumD, enumD_len l]
theorem add_ti (r s : List Int) (h : r.length + s.length ≤ 1000) : oAdd (.v (ti r)) (.v (ti s)) = some (.v (ti (r ++ s))) := by
  unfold ti oAdd
  dsimp only
  rw [if_pos (by simp [lim]; omega)]
  simp
theorem add_tt (A B : List (List Int)) (h : A.length + B.length ≤ 1000) : oAdd (.v (tt A)) (.v (tt B)) = some (.v (tt (A ++ B))) := by
  unfold tt oAdd
  dsimp only
  rw [if_pos (by simp [lim]; omega)]
  simp
def wide (n : Nat) (T : List (List Int)) (r : List Int) : List (List Int) := ((List.range n).map fun i => T.getD i [] ++ [r.getD i 0]) ++ [r ++ [0]]
theorem getD_app {α : Type} (l : List α) (x d : α) (i : Nat) : (l ++ [x]).getD i d = if i < l.length then l.getD i d else if i = l.length then x else d := by
  unfold List.getD
  by_cases q : i < l.length
  · rw [List.getElem?_append_left q, if_pos q]
  · rw [List.getElem?_append_right (by omega), if_neg q]
    by_cases q2 : i = l.length
    · rw [if_pos q2, q2]
      simp
    · rw [if_neg q2, List.getElem?_eq_none (by simp; omega)]
      rfl
section
variable {n : Nat} {T : List (List Int)} {r : List Int}
theorem wide_row (hr : r.length = n) (i : Nat) : (wide n T r).getD i [] = if i < n then T.getD i [] ++ [r.getD i 0] else if i = n then r ++ [0] else [] := by
  unfold wide
  rw [getD_app]
  simp only [List.length_map, List.length_range]
  by_cases q : i < n
  · rw [if_pos q, if_pos q]
    simp [List.getD, q]
  · rw [if_neg q, if_neg q]
theorem wide_at (sq : Sq n T) (hr : r.length = n) {i j : Nat} (hi : i < n) (hj : j < n) : at2 (wide n T r) i j = at2 T i j := by
  unfold at2
  rw [wide_row hr, if_pos hi, getD_app, sq.row i hi, if_pos hj]
theorem wide_in (sq : Sq n T) (hr : r.length = n) {i : Nat} (hi : i < n) : at2 (wide n T r) i n = r.getD i 0 := by
  unfold at2
  rw [wide_row hr, if_pos hi, getD_app, sq.row i hi, if_neg (by omega), if_pos rfl]
theorem wide_ni (hr : r.length = n) {j : Nat} (hj : j < n) : at2 (wide n T r) n j = r.getD j 0 := by
  unfold at2
  rw [wide_row hr, if_neg (by omega), if_pos rfl, getD_app, hr, if_pos hj]
theorem wide_nn (hr : r.length = n) : at2 (wide n T r) n n = 0 := by
  unfold at2
  rw [wide_row hr, if_neg (by omega), if_pos rfl, getD_app, hr, if_neg (by omega), if_pos rfl]
theorem wide_sq (sq : Sq n T) (hr : r.length = n) : Sq (n + 1) (wide n T r) := by
  refine ⟨by simp [wide], fun i hi => ?_⟩
  rw [wide_row hr]
  by_cases q : i < n
  · rw [if_pos q, List.length_append, sq.row i q]; rfl
  · rw [if_neg q, if_pos (by omega), List.length_append, hr]; rfl
theorem wide_dst (h : Dst n T) (f : Fit n T r) : Dst (n + 1) (wide n T r) := by
  have sq := h.tab.sq
  have lr := f.len
  have c : ∀ i, i < n + 1 → i < n ∨ i = n := fun i hi => by omega
  refine ⟨⟨wide_sq sq lr, fun a b ha hb => ?_, fun a b ha hb => ?_, fun a ha => ?_⟩, fun a b ha hb hab => ?_, fun m a b hm ha hb => ?_⟩
  · rcases c a ha with p | rfl <;> rcases c b hb with q | q
    · rw [wide_at sq lr p q, wide_at sq lr q p]; exact h.tab.sy a b p q
    · subst q; rw [wide_in sq lr p, wide_ni lr p]
    · rw [wide_ni lr q, wide_in sq lr q]
    · subst q; rfl
  · rcases c a ha with p | rfl <;> rcases c b hb with q | q
    · rw [wide_at sq lr p q]; exact h.tab.rg a b p q
    · subst q; rw [wide_in sq lr p]; have := f.ps a p; omega
    · rw [wide_ni lr q]; have := f.ps b q; omega
    · subst q; rw [wide_nn lr]; omega
  · rcases c a ha with p | rfl
    · rw [wide_at sq lr p p]; exact h.tab.dg a p
    · exact wide_nn lr
  · rcases c a ha with p | rfl <;> rcases c b hb with q | q
    · rw [wide_at sq lr p q]; exact h.ps a b p q hab
    · subst q; rw [wide_in sq lr p]; exact (f.ps a p).1
    · rw [wide_ni lr q]; exact (f.ps b q).1
    · omega
  · have rg : ∀ i j, i < n → j < n → 0 ≤ at2 T i j := fun i j hi hj => (h.tab.rg i j hi hj).1
    rcases c a ha with p | rfl <;> rcases c b hb with q | q <;> rcases c m hm with t | t
    · rw [wide_at sq lr p q, wide_at sq lr p t, wide_at sq lr t q]; exact h.tr m a b t p q
    · subst t; rw [wide_at sq lr p q, wide_in sq lr p, wide_ni lr q]; exact f.sum a b p q
    · subst q; rw [wide_in sq lr p, wide_at sq lr p t, wide_in sq lr t]; have := f.gap a m p t; omega
    · subst q; subst t; rw [wide_in sq lr p, wide_nn lr]; omega
    · rw [wide_ni lr q, wide_ni lr t, wide_at sq lr t q]; have := f.gap b m q t; rw [h.tab.sy m b t q]; omega
    · subst t; rw [wide_ni lr q, wide_nn lr]; omega
    · subst q; rw [wide_nn lr, wide_ni lr t, wide_in sq lr t]; have := f.ps m t; omega
    · subst q; subst t; rw [wide_nn lr]; omega
end
theorem with_point_ok {T : List (List Int)} {n : Nat} {r : List Int} (hT : IsTab T) (hD : Dst n T) (f : Fit n T r) : G.F_with_point [.v (tt T), .v (ti r)] = .ok (.v (tt (wide n T r))) [] := by
  have lT := hD.tab.sq.len
  have n8 := hT.n8
  have lr := f.len
  have hm := more_paper_ok hT hD f.len f.mem
  rw [f.fits hD.tab.sy] at hm
  have hc := eCompG (vs := [2, 3]) (it := iEnum (eV 0)) (g := gT [(gN 2), (gN 3)]) (t := tYes) (x := e2 oAdd (eV 3) (eTup (eCons (eIxP 1 (eV 2)) eNil)))
    (e := [some (.v (tt T)), some (.v (ti r)), none, none]) (e1 := [some (.v (tt T)), some (.v (ti r)), none, none]) (l := enumD 0 (T.map ti))
    (fun _ => true) (fun d => match d with | .tup [.int i, .tup l] => .tup (l ++ [.int (r.getD i.toNat 0)]) | d => d) (fun d => match d with | .tup [a, b] => [some (.v (tt T)), some (.v (ti r)), some (.v a), some (.v b)] | _ => [])
    (by simp [iEnum]) (by rw [enumD_len, List.length_map]; unfold lim; omega) rfl rfl
    (fun d hd => by
      obtain ⟨i, x, hx, rfl⟩ := enumD_mem _ _ _ hd
      exact ⟨by simp, rfl, rfl⟩)
    (fun d hd _ => by
      obtain ⟨i, x, hx, rfl⟩ := enumD_mem _ _ _ hd
      rw [List.getElem?_map] at hx
      cases q : T[i]? with
      | none => rw [q] at hx; cases hx
      | some row =>
        rw [q] at hx
        cases hx
        have hi : i < n := by
          rcases Nat.lt_or_ge i T.length with z | z
          · omega
          · rw [List.getElem?_eq_none z] at q; cases q
        have hrow : row.length = n := by have := hD.tab.sq.row i hi; rw [getD_of q] at this; exact this
        have i1 : r[i]? = some (r.getD i 0) := get_of (by omega) 0
        have ha := add_ti row [r.getD i 0] (by rw [hrow]; simp; omega)
        have e1 : ((0 + i : Nat) : Int).toNat = i := by omega
        have e0 : ((0 + i : Nat) : Int) = (i : Int) := by omega
        refine ⟨.v (ti (row ++ [r.getD i 0])), ?_, ?_⟩
        · have hs : (D.tup [.int (r.getD i 0)]) = ti [r.getD i 0] := rfl
          rw [e0]
          generalize r.getD i 0 = u at *
          simp [i1, hs, ha]
        · show some (ti (row ++ [r.getD i 0])) = some (D.tup (row.map .int ++ [.int (r.getD ((0 + i : Nat) : Int).toNat 0)]))
          rw [e1]
          simp [ti])
  rw [List.filter_eq_self.mpr (by simp)] at hc
  have e : (enumD 0 (T.map ti)).map (fun d => match d with | .tup [.int i, .tup l] => D.tup (l ++ [.int (r.getD i.toNat 0)]) | d => d) = ((List.range n).map fun i => T.getD i [] ++ [r.getD i 0]).map ti := by
    refine List.ext_getElem? fun i => ?_
    rw [List.getElem?_map, enumD_get, List.getElem?_map, List.getElem?_map, List.getElem?_map]
    rcases Nat.lt_or_ge i n with q | q
    · rw [get_of (show i < T.length by omega) []]
      have e1 : ((0 + i : Nat) : Int).toNat = i := by omega
      simp [q, ti, e1]
    · rw [List.getElem?_eq_none (show T.length ≤ i by omega), List.getElem?_eq_none (show (List.range n).length ≤ i by simp; omega)]
      rfl
  rw [e] at hc
  have h1 : oTuple (.o (((List.range n).map fun i => T.getD i [] ++ [r.getD i 0]).map ti)) = some (.v (tt ((List.range n).map fun i => T.getD i [] ++ [r.getD i 0]))) := rfl
  have h2 := add_ti r [0] (by rw [lr]; simp; omega)
  have h3 := add_tt ((List.range n).map fun i => T.getD i [] ++ [r.getD i 0]) [r ++ [0]] (by simp; omega)
  have h4 : (D.tup [.int 0]) = ti [0] := rfl
  have h5 : (D.tup [ti (r ++ [0])]) = tt [r ++ [0]] := rfl
  have hw : tt (((List.range n).map fun i => T.getD i [] ++ [r.getD i 0]) ++ [r ++ [0]]) = tt (wide n T r) := rfl
  rw [hw] at h3
  unfold G.F_with_point G.c_with_point
  generalize eComp [2, 3] (iEnum (eV 0)) (gT [(gN 2), (gN 3)]) tYes (e2 oAdd (eV 3) (eTup (eCons (eIxP 1 (eV 2)) eNil))) = Y at hc ⊢
  generalize ((List.range n).map fun i => T.getD i [] ++ [r.getD i 0]) = A at *
  generalize wide n T r = Z at *
  generalize A.map ti = R at *
  simp [hm, hc, h1, h2, h3, h4, h5, D.eq, D.eqs, -tuple_o]
end Fx
end

section
set_option linter.all false
set_option maxRecDepth 10000
namespace Fx
/-! two tables that share their first points -/
/-- they agree on the first points -/
structure Shr (n m k : Nat) (A O : List (List Int)) : Prop where
  dA : Dst n A
  dO : Dst m O
  k1 : 1 ≤ k
  kn : k ≤ n
  km : k ≤ m
  n8 : n + m - k ≤ 8
  eq : ∀ i j, i < k → j < k → at2 A i j = at2 O i j
def stepV (A O : List (List Int)) (k i j : Nat) : Int := mnR ((List.range k).map fun s => at2 A i s + at2 O s j)
def gapV (A O : List (List Int)) (k i j : Nat) : Int := mxR ((List.range k).map fun s => ab (at2 A i s - at2 O s j))
theorem iR2_nat {a b : M Vl} {e e1 e' : En} {i j : Nat} (h : a e = .ok (.v (.int (i : Int))) e1) (h2 : b e1 = .ok (.v (.int (j : Int))) e') (hs : i ≤ 1000) (hs2 : j ≤ 1000) : iR2 a b e = .ok (rng (i : Int) (j - i)) e' := by
  have s1 : smallI (i : Int) = true := small_nat (by omega)
  have s2 : smallI (j : Int) = true := small_nat (by omega)
  have e3 : ((j : Int) - (i : Int)).toNat = j - i := by omega
  simp [iR2, h, h2, s1, s2, e3]
theorem step_ok {n m k : Nat} {A O : List (List Int)} (h : Shr n m k A O) {i j : Nat} (hi : i < n) (hj : j < m) : G.F_step [.v (tt A), .v (tt O), .v (.int (k : Int)), .v (.int (i : Int)), .v (.int (j : Int))] = .ok (.v (.int (stepV A O k i j))) [] := by
  have hk := h.k1
  have kn := h.kn
  have km := h.km
  have n8 := h.n8
  have lA := h.dA.tab.sq.len
  have lO := h.dO.tab.sq.len
  have rdA : ∀ a b, a < n → b < n → ∃ r, A[a]? = some r ∧ r[b]? = some (at2 A a b) := fun a b ha hb => at_ok (fun r hr => by rw [h.dA.tab.sqr r hr, lA]) (by omega) (by omega)
  have rdO : ∀ a b, a < m → b < m → ∃ r, O[a]? = some r ∧ r[b]? = some (at2 O a b) := fun a b ha hb => at_ok (fun r hr => by rw [h.dO.tab.sqr r hr, lO]) (by omega) (by omega)
  have hc := eCompA (k := 5) (it := iR1 (eV 2)) (x := e2 oAdd (e2 oIx (eIxP 0 (eV 3)) (eV 5)) (e2 oIx (eIxP 1 (eV 5)) (eV 4))) (e := [some (.v (tt A)), some (.v (tt O)), some (.v (.int (k : Int))), some (.v (.int (i : Int))), some (.v (.int (j : Int))), none]) (e1 := [some (.v (tt A)), some (.v (tt O)), some (.v (.int (k : Int))), some (.v (.int (i : Int))), some (.v (.int (j : Int))), none]) (l := rng 0 k)
    (fun c => .int (at2 A i c.nat + at2 O c.nat j)) (iR1_nat (by simp) (by omega)) (by rw [rng_len]; unfold lim; omega) rfl (fun c hc => by
      obtain ⟨s, hs, rfl⟩ := rng_mem hc
      have e0 : (0 : Int) + (s : Int) = (s : Int) := by omega
      rw [e0]
      have hnat : (D.int (s : Int)).nat = s := rfl
      rw [hnat]
      obtain ⟨r1, g1, g2⟩ := rdA i s hi (by omega)
      obtain ⟨r2, g3, g4⟩ := rdO s j (by omega) hj
      exact ⟨.v (.int (at2 A i s + at2 O s j)), by simp [g1, g2, g3, g4], rfl⟩)
  rw [row_ints k (fun s => at2 A i s + at2 O s j)] at hc
  have hne : ((List.range k).map fun s => at2 A i s + at2 O s j) ≠ [] := by
    intro z
    rw [List.map_eq_nil_iff, List.range_eq_nil] at z
    omega
  have hm : oMinL (.o (((List.range k).map fun s => at2 A i s + at2 O s j).map .int)) = some (.v (.int (stepV A O k i j))) := oMinL_o hne
  unfold G.F_step G.c_step
  generalize eComp [5] (iR1 (eV 2)) (gN 5) tYes (e2 oAdd (e2 oIx (eIxP 0 (eV 3)) (eV 5)) (e2 oIx (eIxP 1 (eV 5)) (eV 4))) = Y at hc ⊢
  generalize ((List.range k).map fun s => at2 A i s + at2 O s j).map D.int = R at *
  simp [hc, hm]
theorem gap_ok {n m k : Nat} {A O : List (List Int)} (h : Shr n m k A O) {i j : Nat} (hi : i < n) (hj : j < m) : G.F_gap [.v (tt A), .v (tt O), .v (.int (k : Int)), .v (.int (i : Int)), .v (.int (j : Int))] = .ok (.v (.int (gapV A O k i j))) [] := by
  have hk := h.k1
  have kn := h.kn
  have km := h.km
  have n8 := h.n8
  have lA := h.dA.tab.sq.len
  have lO := h.dO.tab.sq.len
  have rdA : ∀ a b, a < n → b < n → ∃ r, A[a]? = some r ∧ r[b]? = some (at2 A a b) := fun a b ha hb => at_ok (fun r hr => by rw [h.dA.tab.sqr r hr, lA]) (by omega) (by omega)
  have rdO : ∀ a b, a < m → b < m → ∃ r, O[a]? = some r ∧ r[b]? = some (at2 O a b) := fun a b ha hb => at_ok (fun r hr => by rw [h.dO.tab.sqr r hr, lO]) (by omega) (by omega)
  have hc := eCompA (k := 5) (it := iR1 (eV 2)) (x := e1 oAbs (e2 oSub (e2 oIx (eIxP 0 (eV 3)) (eV 5)) (e2 oIx (eIxP 1 (eV 5)) (eV 4)))) (e := [some (.v (tt A)), some (.v (tt O)), some (.v (.int (k : Int))), some (.v (.int (i : Int))), some (.v (.int (j : Int))), none]) (e1 := [some (.v (tt A)), some (.v (tt O)), some (.v (.int (k : Int))), some (.v (.int (i : Int))), some (.v (.int (j : Int))), none]) (l := rng 0 k)
    (fun c => .int (ab (at2 A i c.nat - at2 O c.nat j))) (iR1_nat (by simp) (by omega)) (by rw [rng_len]; unfold lim; omega) rfl (fun c hc => by
      obtain ⟨s, hs, rfl⟩ := rng_mem hc
      have e0 : (0 : Int) + (s : Int) = (s : Int) := by omega
      rw [e0]
      have hnat : (D.int (s : Int)).nat = s := rfl
      rw [hnat]
      obtain ⟨r1, g1, g2⟩ := rdA i s hi (by omega)
      obtain ⟨r2, g3, g4⟩ := rdO s j (by omega) hj
      exact ⟨.v (.int (ab (at2 A i s - at2 O s j))), by simp [g1, g2, g3, g4], rfl⟩)
  rw [row_ints k (fun s => ab (at2 A i s - at2 O s j))] at hc
  have hne : ((List.range k).map fun s => ab (at2 A i s - at2 O s j)) ≠ [] := by
    intro z
    rw [List.map_eq_nil_iff, List.range_eq_nil] at z
    omega
  have hm : oMaxL (.o (((List.range k).map fun s => ab (at2 A i s - at2 O s j)).map .int)) = some (.v (.int (gapV A O k i j))) := oMaxL_o hne
  unfold G.F_gap G.c_gap
  generalize eComp [5] (iR1 (eV 2)) (gN 5) tYes (e1 oAbs (e2 oSub (e2 oIx (eIxP 0 (eV 3)) (eV 5)) (e2 oIx (eIxP 1 (eV 5)) (eV 4)))) = Y at hc ⊢
  generalize ((List.range k).map fun s => ab (at2 A i s - at2 O s j)).map D.int = R at *
  simp [hc, hm]
theorem check_shared_ok {n m k : Nat} {A O : List (List Int)} (h : Shr n m k A O) : G.F_check_shared [.v (tt A), .v (tt O), .v (.int (k : Int))] = .ok (.v .non) [] := by
  have hk := h.k1
  have kn := h.kn
  have km := h.km
  have n8 := h.n8
  have lA := h.dA.tab.sq.len
  have lO := h.dO.tab.sq.len
  have jA := h.dA.tab.tab (by omega) (by omega) (by omega)
  have jO := h.dO.tab.tab (by omega) (by omega) (by omega)
  have cA := check_distances_ok jA lA (faults_nil h.dA)
  have cO := check_distances_ok jO lO (faults_nil h.dO)
  have rdA : ∀ a b, a < n → b < n → ∃ r, A[a]? = some r ∧ r[b]? = some (at2 A a b) := fun a b ha hb => at_ok (fun r hr => by rw [h.dA.tab.sqr r hr, lA]) (by omega) (by omega)
  have rdO : ∀ a b, a < m → b < m → ∃ r, O[a]? = some r ∧ r[b]? = some (at2 O a b) := fun a b ha hb => at_ok (fun r hr => by rw [h.dO.tab.sqr r hr, lO]) (by omega) (by omega)
  have hc := eComp2P (k1 := 3) (k2 := 4) (it := iR1 (eV 2)) (it1 := iR1 (eV 2)) (t1 := tYes) (x := e2 oNe (e2 oIx (eIxP 0 (eV 3)) (eV 4)) (e2 oIx (eIxP 1 (eV 3)) (eV 4)))
    (e := [some (.v (tt A)), some (.v (tt O)), some (.v (.int (k : Int))), none, none]) (e1 := [some (.v (tt A)), some (.v (tt O)), some (.v (.int (k : Int))), none, none]) (l := rng 0 k)
    (fun _ => rng 0 k) (fun _ _ => true) (fun _ _ => .bl false) k (iR1_nat (by simp) (by omega)) rfl rfl (by decide) (by
      rw [rng_len]
      have := Nat.mul_le_mul (show k ≤ 8 by omega) (show k ≤ 8 by omega)
      unfold lim
      omega)
    (fun d hd => ⟨iR1_nat (by simp) (by omega), by rw [rng_len]; omega⟩)
    (fun d hd c hc => rfl)
    (fun d hd c hc _ => by
      obtain ⟨a, ha, rfl⟩ := rng_mem hd
      obtain ⟨b, hb, rfl⟩ := rng_mem hc
      have e0 : (0 : Int) + (a : Int) = (a : Int) := by omega
      have e0' : (0 : Int) + (b : Int) = (b : Int) := by omega
      rw [e0, e0']
      obtain ⟨r1, g1, g2⟩ := rdA a b (by omega) (by omega)
      obtain ⟨r2, g3, g4⟩ := rdO a b (by omega) (by omega)
      have hq := h.eq a b ha hb
      exact ⟨.v (.bl false), by simp [g1, g2, g3, g4, hq], rfl⟩)
  have ha : oAny (.o ((rng 0 k).flatMap fun d => ((rng 0 k).filter fun _ => true).map fun _ => D.bl false)) = some (.v (.bl false)) := by
    have e : ((rng 0 k).flatMap fun d => ((rng 0 k).filter fun _ => true).map fun _ => D.bl false) = ((rng 0 k).flatMap fun d => ((rng 0 k).filter fun _ => true)).map fun _ => D.bl false := by
      rw [List.map_flatMap]
    rw [e, any_o]
    congr 3
    rw [List.any_eq_false]
    intro x hx
    obtain ⟨d, _, rfl⟩ := List.mem_map.mp hx
    simp
  have i1 : (1 : Int) ≤ (k : Int) := by omega
  have i2 : (k : Int) ≤ min (n : Int) (m : Int) := by omega
  have i3 : ¬ (8 : Int) < (n : Int) + (m : Int) - (k : Int) := by omega
  unfold G.F_check_shared G.c_check_shared
  generalize eComp2 [3, 4] [4] (iR1 (eV 2)) (gN 3) tYes (iR1 (eV 2)) (gN 4) tYes (e2 oNe (e2 oIx (eIxP 0 (eV 3)) (eV 4)) (e2 oIx (eIxP 1 (eV 3)) (eV 4))) = Y at hc ⊢
  generalize ((rng 0 k).flatMap fun d => ((rng 0 k).filter fun _ => true).map fun _ => D.bl false) = R at *
  simp [cA, cO, is_integer_int, eChain, lA, lO, i1, i2, i3, hc, ha]
/-- the table of both -/
def gluT (f : Nat → Nat → Int) (k n m : Nat) (A O : List (List Int)) : List (List Int) :=
  ((List.range n).map fun i => A.getD i [] ++ (List.range (m - k)).map fun t => f i (k + t)) ++
  ((List.range (m - k)).map fun t => ((List.range n).map fun i => f i (k + t)) ++ (O.getD (k + t) []).drop k)
/-- as it grows -/
def gluI (f : Nat → Nat → Int) (k n m : Nat) (A : List (List Int)) (j : Nat) : List (List Int) := (List.range n).map fun i => if i < j then A.getD i [] ++ (List.range (m - k)).map fun t => f i (k + t) else A.getD i []
theorem gluI_zero (f : Nat → Nat → Int) (k n m : Nat) {A : List (List Int)} (h : A.length = n) : gluI f k n m A 0 = A := by
  unfold gluI
  refine List.ext_getElem? fun i => ?_
  rw [List.getElem?_map]
  rcases Nat.lt_or_ge i n with q | q
  · rw [get_of (show i < A.length by omega) []]
    simp [q]
  · rw [List.getElem?_eq_none (show A.length ≤ i by omega), List.getElem?_eq_none (show (List.range n).length ≤ i by simp; omega)]
    rfl
theorem gluI_succ (f : Nat → Nat → Int) (k n m : Nat) (A : List (List Int)) (j : Nat) (hj : j < n) : (gluI f k n m A j).set j (A.getD j [] ++ (List.range (m - k)).map fun t => f j (k + t)) = gluI f k n m A (j + 1) := by
  unfold gluI
  refine List.ext_getElem? fun i => ?_
  rw [List.getElem?_set, List.getElem?_map, List.getElem?_map]
  by_cases q : j = i
  · subst q
    simp [hj]
  · rw [if_neg q]
    rcases Nat.lt_or_ge i n with z | z
    · have : (i < j + 1) ↔ i < j := by omega
      simp [z, this]
    · rw [List.getElem?_eq_none (show (List.range n).length ≤ i by simp; omega)]
      rfl
theorem gluI_get (f : Nat → Nat → Int) (k n m : Nat) (A : List (List Int)) (j : Nat) (hj : j < n) : (gluI f k n m A j)[j]? = some (A.getD j []) := by
  unfold gluI
  simp [hj]
theorem rngk (k w : Nat) (g : Nat → Int) : (rng (k : Int) w).map (fun c => D.int (g c.nat)) = ((List.range w).map fun t => g (k + t)).map .int := by
  unfold rng
  rw [List.map_map, List.map_map]
  refine List.map_congr_left fun t _ => ?_
  show D.int (g ((k : Int) + (t : Int)).toNat) = D.int (g (k + t))
  have : ((k : Int) + (t : Int)).toNat = k + t := by omega
  rw [this]
theorem rng_memk {k w : Nat} {c : D} (h : c ∈ rng (k : Int) w) : ∃ t : Nat, t < w ∧ c = .int ((k + t : Nat) : Int) := by
  obtain ⟨t, ht, rfl⟩ := rng_mem h
  exact ⟨t, ht, by congr 1⟩
theorem rng_rangek (k w : Nat) : rng (k : Int) w = (List.range' k w).map fun (t : Nat) => D.int (t : Int) := rng_from k w
theorem oomset' (T : List (List Int)) (i : Nat) (r : List Int) : (oom T).set i (r.map .int) = oom (T.set i r) := by
  unfold oom
  rw [List.map_set]
theorem oom_snoc (T : List (List Int)) (r : List Int) : oom T ++ [r.map .int] = oom (T ++ [r]) := by
  unfold oom
  rw [List.map_append]
  rfl
theorem oomget' {T : List (List Int)} {i : Nat} {r : List Int} (h : T[i]? = some r) : (oom T)[i]? = some (r.map .int) := by
  unfold oom
  rw [List.getElem?_map, h]
  rfl
theorem glued_ok {n m k : Nat} {A O : List (List Int)} (h : Shr n m k A O) : G.F_glued [.v (tt A), .v (tt O), .v (.int (k : Int))] = .ok (.v (tt (gluT (stepV A O k) k n m A O))) [] := by
  have hk := h.k1
  have kn := h.kn
  have km := h.km
  have n8 := h.n8
  have lA := h.dA.tab.sq.len
  have lO := h.dO.tab.sq.len
  have hsh := check_shared_ok h
  have h0 := eCompO1 (k := 7) (it := iL (eV 0)) (x := e1 oList (eP 7)) (e := [some (.v (tt A)), some (.v (tt O)), some (.v (.int (k : Int))), some (.v (.int (n : Int))), none, none, none, none]) (e1 := [some (.v (tt A)), some (.v (tt O)), some (.v (.int (k : Int))), some (.v (.int (n : Int))), none, none, none, none]) (l := A.map ti) tlD (by simp) (by rw [List.length_map, lA]; unfold lim; omega) rfl (fun d hd => by
    obtain ⟨r, _, rfl⟩ := List.mem_map.mp hd
    simp [oList, ti, tlD])
  rw [ti_rows] at h0
  obtain ⟨e3, h1, r5, hz, rfl⟩ := forGoR (g := gN 5) (b := (sAugIx 4 (nV 5) (eComp [6] (iR2 (eV 2) (e1 oLen (eP 1))) (gN 6) tYes (eCall G.F_step [.va (eV 0), .va (eV 1), .va (eV 2), .va (eV 5), .va (eV 6)]))))
    (fun j e => ∃ r5, (0 < j → ∃ z, r5 = some (.v z)) ∧ e = [some (.v (tt A)), some (.v (tt O)), some (.v (.int (k : Int))), some (.v (.int (n : Int))), some (.oo (oom (gluI (stepV A O k) k n m A j))), r5, none, none]) n n 0 [some (.v (tt A)), some (.v (tt O)), some (.v (.int (k : Int))), some (.v (.int (n : Int))), some (.oo (oom A)), none, none, none] (by omega) ⟨none, fun z => by omega, by rw [gluI_zero _ _ _ _ lA]⟩ (by
      rintro j e hj ⟨r5, _, rfl⟩
      refine ⟨_, [some (.v (tt A)), some (.v (tt O)), some (.v (.int (k : Int))), some (.v (.int (n : Int))), some (.oo (oom (gluI (stepV A O k) k n m A (j + 1)))), some (.v (.int (j : Int))), none, none], rfl, ?_, _, fun _ => ⟨_, rfl⟩, rfl⟩
      have hc := eCompA (k := 6) (it := iR2 (eV 2) (e1 oLen (eP 1))) (x := eCall G.F_step [.va (eV 0), .va (eV 1), .va (eV 2), .va (eV 5), .va (eV 6)]) (e := [some (.v (tt A)), some (.v (tt O)), some (.v (.int (k : Int))), some (.v (.int (n : Int))), none, some (.v (.int (j : Int))), none, none]) (e1 := [some (.v (tt A)), some (.v (tt O)), some (.v (.int (k : Int))), some (.v (.int (n : Int))), none, some (.v (.int (j : Int))), none, none]) (l := rng (k : Int) (m - k))
        (fun c => .int (stepV A O k j c.nat)) (iR2_nat (e1 := [some (.v (tt A)), some (.v (tt O)), some (.v (.int (k : Int))), some (.v (.int (n : Int))), none, some (.v (.int (j : Int))), none, none]) (by simp) (by simp [lO]) (by omega) (by omega)) (by rw [rng_len]; unfold lim; omega) rfl (fun c hc => by
          obtain ⟨t, ht, rfl⟩ := rng_memk hc
          have hs := step_ok h (i := j) (j := k + t) hj (by omega)
          have hnat : (D.int ((k + t : Nat) : Int)).nat = k + t := rfl
          rw [hnat]
          exact ⟨.v (.int (stepV A O k j (k + t))), by simp [hs, -Int.natCast_add], rfl⟩)
      rw [rngk k (m - k) (fun t => stepV A O k j t)] at hc
      have hg := oomget' (gluI_get (stepV A O k) k n m A j hj)
      have hs := oomset' (gluI (stepV A O k) k n m A j) j (A.getD j [] ++ (List.range (m - k)).map fun t => stepV A O k j (k + t))
      rw [gluI_succ _ _ _ _ _ _ hj, List.map_append] at hs
      have hl : ((A.getD j []).map D.int).length + (((List.range (m - k)).map fun t => stepV A O k j (k + t)).map D.int).length ≤ lim := by
        rw [List.length_map, List.length_map, List.length_map, List.length_range, h.dA.tab.sq.row j hj]
        unfold lim
        omega
      simp only [List.set_cons_succ, List.set_cons_zero]
      generalize oom (gluI (stepV A O k) k n m A j) = L0 at *
      generalize oom (gluI (stepV A O k) k n m A (j + 1)) = L1 at *
      generalize eComp [6] (iR2 (eV 2) (e1 oLen (eP 1))) (gN 6) tYes (eCall G.F_step [.va (eV 0), .va (eV 1), .va (eV 2), .va (eV 5), .va (eV 6)]) = Y at hc ⊢
      generalize ((List.range (m - k)).map fun t => stepV A O k j (k + t)).map D.int = R at *
      generalize (A.getD j []).map D.int = R0 at *
      have hl' : R0.length + R.length ≤ lim := hl
      simp [hc, hg, hs, hl'])
  rw [← rng_range'] at h1
  have f1 : sFor (iR1 (eV 3)) (gN 5) (sAugIx 4 (nV 5) (eComp [6] (iR2 (eV 2) (e1 oLen (eP 1))) (gN 6) tYes (eCall G.F_step [.va (eV 0), .va (eV 1), .va (eV 2), .va (eV 5), .va (eV 6)]))) [some (.v (tt A)), some (.v (tt O)), some (.v (.int (k : Int))), some (.v (.int (n : Int))), some (.oo (oom A)), none, none, none] = .nxt [some (.v (tt A)), some (.v (tt O)), some (.v (.int (k : Int))), some (.v (.int (n : Int))), some (.oo (oom (gluI (stepV A O k) k n m A n))), r5, none, none] := by
    rw [s_sFor, iR1_nat (n := n) (e' := [some (.v (tt A)), some (.v (tt O)), some (.v (.int (k : Int))), some (.v (.int (n : Int))), some (.oo (oom A)), none, none, none]) (by simp) (by omega)]
    exact h1
  obtain ⟨z5, rfl⟩ := hz (by omega)
  obtain ⟨e4, h2, r6, _, rfl⟩ := forGoR (g := gN 6) (b := (sDrop (mAppO 4 (e2 oAdd (eComp [5] (iR1 (eV 3)) (gN 5) tYes (eCall G.F_step [.va (eV 0), .va (eV 1), .va (eV 2), .va (eV 5), .va (eV 6)])) (e1 oList (eCut (eIxP 1 (eV 6)) (pSome (eV 2)) pNo))))))
    (fun j e => ∃ r6, k ≤ j ∧ e = [some (.v (tt A)), some (.v (tt O)), some (.v (.int (k : Int))), some (.v (.int (n : Int))), some (.oo (oom (gluI (stepV A O k) k n m A n ++ (List.range (j - k)).map fun t => ((List.range n).map fun i => stepV A O k i (k + t)) ++ (O.getD (k + t) []).drop k))), some (.v z5), r6, none]) m (m - k) k [some (.v (tt A)), some (.v (tt O)), some (.v (.int (k : Int))), some (.v (.int (n : Int))), some (.oo (oom (gluI (stepV A O k) k n m A n))), some (.v z5), none, none] (by omega) ⟨none, by omega, by simp⟩ (by
      rintro j e hj ⟨r6, hkj, rfl⟩
      refine ⟨_, [some (.v (tt A)), some (.v (tt O)), some (.v (.int (k : Int))), some (.v (.int (n : Int))), some (.oo (oom (gluI (stepV A O k) k n m A n ++ (List.range (j + 1 - k)).map fun t => ((List.range n).map fun i => stepV A O k i (k + t)) ++ (O.getD (k + t) []).drop k))), some (.v z5), some (.v (.int (j : Int))), none], rfl, ?_, _, by omega, rfl⟩
      have hr : (List.range (j + 1 - k)).map (fun t => ((List.range n).map fun i => stepV A O k i (k + t)) ++ (O.getD (k + t) []).drop k) = (List.range (j - k)).map (fun t => ((List.range n).map fun i => stepV A O k i (k + t)) ++ (O.getD (k + t) []).drop k) ++ [((List.range n).map fun i => stepV A O k i j) ++ (O.getD j []).drop k] := by
        rw [show j + 1 - k = (j - k) + 1 by omega, List.range_succ, List.map_append, List.map_singleton, show k + (j - k) = j by omega]
      rw [hr, ← List.append_assoc]
      have hlen : (oom (gluI (stepV A O k) k n m A n ++ (List.range (j - k)).map fun t => ((List.range n).map fun i => stepV A O k i (k + t)) ++ (O.getD (k + t) []).drop k)).length < lim := by
        unfold oom gluI
        simp
        unfold lim
        omega
      have hsn := oom_snoc (gluI (stepV A O k) k n m A n ++ (List.range (j - k)).map fun t => ((List.range n).map fun i => stepV A O k i (k + t)) ++ (O.getD (k + t) []).drop k) (((List.range n).map fun i => stepV A O k i j) ++ (O.getD j []).drop k)
      rw [List.map_append] at hsn
      generalize oom (gluI (stepV A O k) k n m A n ++ (List.range (j - k)).map fun t => ((List.range n).map fun i => stepV A O k i (k + t)) ++ (O.getD (k + t) []).drop k) = L0 at *
      generalize oom (gluI (stepV A O k) k n m A n ++ (List.range (j - k)).map (fun t => ((List.range n).map fun i => stepV A O k i (k + t)) ++ (O.getD (k + t) []).drop k) ++ [((List.range n).map fun i => stepV A O k i j) ++ (O.getD j []).drop k]) = L1 at *
      have hc := eCompAV (k := 5) (d0 := z5) (it := iR1 (eV 3)) (x := eCall G.F_step [.va (eV 0), .va (eV 1), .va (eV 2), .va (eV 5), .va (eV 6)]) (e := [some (.v (tt A)), some (.v (tt O)), some (.v (.int (k : Int))), some (.v (.int (n : Int))), some (.oo L0), some (.v z5), some (.v (.int (j : Int))), none]) (f1 := [some (.v (tt A)), some (.v (tt O)), some (.v (.int (k : Int))), some (.v (.int (n : Int))), some (.oo L0), some (.v z5), some (.v (.int (j : Int))), none]) (l := rng 0 n)
        (fun c => .int (stepV A O k c.nat j)) (iR1_nat (by simp) (by omega)) (by rw [rng_len]; unfold lim; omega) rfl (fun c hc => by
          obtain ⟨i, hi, rfl⟩ := rng_mem hc
          have e0 : (0 : Int) + (i : Int) = (i : Int) := by omega
          rw [e0]
          have hs := step_ok h (i := i) (j := j) hi hj
          have hnat : (D.int (i : Int)).nat = i := rfl
          rw [hnat]
          exact ⟨.v (.int (stepV A O k i j)), by simp [hs], rfl⟩)
      rw [row_ints n (fun i => stepV A O k i j)] at hc
      have gO : O[j]? = some (O.getD j []) := get_of (by omega) []
      have lrow := h.dO.tab.sq.row j hj
      have hcut : oCut (.v (ti (O.getD j []))) (some (k : Int)) none = some (.v (ti ((O.getD j []).drop k))) := by
        have := oCut_from ((O.getD j []).map D.int) k (by rw [List.length_map]; omega)
        rw [← List.map_drop] at this
        exact this
      have hlst : oList (.v (ti ((O.getD j []).drop k))) = some (.o (((O.getD j []).drop k).map .int)) := rfl
      have hl : (((List.range n).map fun i => stepV A O k i j).map D.int).length + (((O.getD j []).drop k).map D.int).length ≤ lim := by
        rw [List.length_map, List.length_map, List.length_map, List.length_range, List.length_drop, lrow]
        unfold lim
        omega
      simp only [List.set_cons_succ, List.set_cons_zero]
      generalize (O.getD j []).drop k = Od at *
      generalize O.getD j [] = Oj at *
      generalize eComp [5] (iR1 (eV 3)) (gN 5) tYes (eCall G.F_step [.va (eV 0), .va (eV 1), .va (eV 2), .va (eV 5), .va (eV 6)]) = Y at hc ⊢
      generalize ((List.range n).map fun i => stepV A O k i j).map D.int = R at *
      generalize Od.map D.int = R0 at *
      simp [hc, gO, hcut, hlst, oAdd, hl, hlen, hsn, pNo, pSome, Vl.int])
  rw [← rng_rangek] at h2
  have f2 : sFor (iR2 (eV 2) (e1 oLen (eP 1))) (gN 6) (sDrop (mAppO 4 (e2 oAdd (eComp [5] (iR1 (eV 3)) (gN 5) tYes (eCall G.F_step [.va (eV 0), .va (eV 1), .va (eV 2), .va (eV 5), .va (eV 6)])) (e1 oList (eCut (eIxP 1 (eV 6)) (pSome (eV 2)) pNo))))) [some (.v (tt A)), some (.v (tt O)), some (.v (.int (k : Int))), some (.v (.int (n : Int))), some (.oo (oom (gluI (stepV A O k) k n m A n))), some (.v z5), none, none] = .nxt [some (.v (tt A)), some (.v (tt O)), some (.v (.int (k : Int))), some (.v (.int (n : Int))), some (.oo (oom (gluI (stepV A O k) k n m A n ++ (List.range (m - k)).map fun t => ((List.range n).map fun i => stepV A O k i (k + t)) ++ (O.getD (k + t) []).drop k))), some (.v z5), r6, none] := by
    rw [s_sFor, iR2_nat (i := k) (j := m) (e1 := [some (.v (tt A)), some (.v (tt O)), some (.v (.int (k : Int))), some (.v (.int (n : Int))), some (.oo (oom (gluI (stepV A O k) k n m A n))), some (.v z5), none, none]) (e' := [some (.v (tt A)), some (.v (tt O)), some (.v (.int (k : Int))), some (.v (.int (n : Int))), some (.oo (oom (gluI (stepV A O k) k n m A n))), some (.v z5), none, none]) (by simp) (by simp [lO]) (by omega) (by omega)]
    exact h2
  have hI : gluI (stepV A O k) k n m A n ++ (List.range (m - k)).map (fun t => ((List.range n).map fun i => stepV A O k i (k + t)) ++ (O.getD (k + t) []).drop k) = gluT (stepV A O k) k n m A O := by
    unfold gluI gluT
    congr 1
    refine List.map_congr_left fun i hi => ?_
    rw [List.mem_range] at hi
    rw [if_pos hi]
  rw [hI] at f2
  have lG : (gluT (stepV A O k) k n m A O).length ≤ 1000 := by
    unfold gluT
    simp
    omega
  have fin := eCompA (k := 7) (it := iL (eV 4)) (x := e1 oTuple (eP 7)) (e := [some (.v (tt A)), some (.v (tt O)), some (.v (.int (k : Int))), some (.v (.int (n : Int))), some (.oo (oom (gluT (stepV A O k) k n m A O))), some (.v z5), r6, none]) (e1 := [some (.v (tt A)), some (.v (tt O)), some (.v (.int (k : Int))), some (.v (.int (n : Int))), some (.v (.lst ((oom (gluT (stepV A O k) k n m A O)).map .lst))), some (.v z5), r6, none]) (l := (oom (gluT (stepV A O k) k n m A O)).map .lst)
    ltD (by simp) (by
      rw [List.length_map]
      unfold oom
      rw [List.length_map]
      unfold lim
      omega) rfl (fun d hd => by
      obtain ⟨r, _, rfl⟩ := List.mem_map.mp hd
      exact ⟨.v (.tup r), by simp, rfl⟩)
  rw [oom_rows] at fin
  have ho : oTuple (.o ((gluT (stepV A O k) k n m A O).map ti)) = some (.v (tt (gluT (stepV A O k) k n m A O))) := rfl
  unfold G.F_glued G.c_glued
  generalize sFor (iR1 (eV 3)) (gN 5) (sAugIx 4 (nV 5) (eComp [6] (iR2 (eV 2) (e1 oLen (eP 1))) (gN 6) tYes (eCall G.F_step [.va (eV 0), .va (eV 1), .va (eV 2), .va (eV 5), .va (eV 6)]))) = Y at f1 ⊢
  generalize sFor (iR2 (eV 2) (e1 oLen (eP 1))) (gN 6) (sDrop (mAppO 4 (e2 oAdd (eComp [5] (iR1 (eV 3)) (gN 5) tYes (eCall G.F_step [.va (eV 0), .va (eV 1), .va (eV 2), .va (eV 5), .va (eV 6)])) (e1 oList (eCut (eIxP 1 (eV 6)) (pSome (eV 2)) pNo))))) = Z at f2 ⊢
  generalize eCompO [7] (iL (eV 0)) (gN 7) tYes (e1 oList (eP 7)) = U at h0 ⊢
  generalize eComp [7] (iL (eV 4)) (gN 7) tYes (e1 oTuple (eP 7)) = V at fin ⊢
  generalize gluT (stepV A O k) k n m A O = GG at *
  generalize GG.map ti = GT at *
  simp [hsh, lA, h0, f1, f2, fin, ho, -tuple_o]
theorem least_glued_ok {n m k : Nat} {A O : List (List Int)} (h : Shr n m k A O) : G.F_least_glued [.v (tt A), .v (tt O), .v (.int (k : Int))] = .ok (.v (tt (gluT (gapV A O k) k n m A O))) [] := by
  have hk := h.k1
  have kn := h.kn
  have km := h.km
  have n8 := h.n8
  have lA := h.dA.tab.sq.len
  have lO := h.dO.tab.sq.len
  have hsh := check_shared_ok h
  have h0 := eCompO1 (k := 7) (it := iL (eV 0)) (x := e1 oList (eP 7)) (e := [some (.v (tt A)), some (.v (tt O)), some (.v (.int (k : Int))), some (.v (.int (n : Int))), none, none, none, none]) (e1 := [some (.v (tt A)), some (.v (tt O)), some (.v (.int (k : Int))), some (.v (.int (n : Int))), none, none, none, none]) (l := A.map ti) tlD (by simp) (by rw [List.length_map, lA]; unfold lim; omega) rfl (fun d hd => by
    obtain ⟨r, _, rfl⟩ := List.mem_map.mp hd
    simp [oList, ti, tlD])
  rw [ti_rows] at h0
  obtain ⟨e3, h1, r5, hz, rfl⟩ := forGoR (g := gN 5) (b := (sAugIx 4 (nV 5) (eComp [6] (iR2 (eV 2) (e1 oLen (eP 1))) (gN 6) tYes (eCall G.F_gap [.va (eV 0), .va (eV 1), .va (eV 2), .va (eV 5), .va (eV 6)]))))
    (fun j e => ∃ r5, (0 < j → ∃ z, r5 = some (.v z)) ∧ e = [some (.v (tt A)), some (.v (tt O)), some (.v (.int (k : Int))), some (.v (.int (n : Int))), some (.oo (oom (gluI (gapV A O k) k n m A j))), r5, none, none]) n n 0 [some (.v (tt A)), some (.v (tt O)), some (.v (.int (k : Int))), some (.v (.int (n : Int))), some (.oo (oom A)), none, none, none] (by omega) ⟨none, fun z => by omega, by rw [gluI_zero _ _ _ _ lA]⟩ (by
      rintro j e hj ⟨r5, _, rfl⟩
      refine ⟨_, [some (.v (tt A)), some (.v (tt O)), some (.v (.int (k : Int))), some (.v (.int (n : Int))), some (.oo (oom (gluI (gapV A O k) k n m A (j + 1)))), some (.v (.int (j : Int))), none, none], rfl, ?_, _, fun _ => ⟨_, rfl⟩, rfl⟩
      have hc := eCompA (k := 6) (it := iR2 (eV 2) (e1 oLen (eP 1))) (x := eCall G.F_gap [.va (eV 0), .va (eV 1), .va (eV 2), .va (eV 5), .va (eV 6)]) (e := [some (.v (tt A)), some (.v (tt O)), some (.v (.int (k : Int))), some (.v (.int (n : Int))), none, some (.v (.int (j : Int))), none, none]) (e1 := [some (.v (tt A)), some (.v (tt O)), some (.v (.int (k : Int))), some (.v (.int (n : Int))), none, some (.v (.int (j : Int))), none, none]) (l := rng (k : Int) (m - k))
        (fun c => .int (gapV A O k j c.nat)) (iR2_nat (e1 := [some (.v (tt A)), some (.v (tt O)), some (.v (.int (k : Int))), some (.v (.int (n : Int))), none, some (.v (.int (j : Int))), none, none]) (by simp) (by simp [lO]) (by omega) (by omega)) (by rw [rng_len]; unfold lim; omega) rfl (fun c hc => by
          obtain ⟨t, ht, rfl⟩ := rng_memk hc
          have hs := gap_ok h (i := j) (j := k + t) hj (by omega)
          have hnat : (D.int ((k + t : Nat) : Int)).nat = k + t := rfl
          rw [hnat]
          exact ⟨.v (.int (gapV A O k j (k + t))), by simp [hs, -Int.natCast_add], rfl⟩)
      rw [rngk k (m - k) (fun t => gapV A O k j t)] at hc
      have hg := oomget' (gluI_get (gapV A O k) k n m A j hj)
      have hs := oomset' (gluI (gapV A O k) k n m A j) j (A.getD j [] ++ (List.range (m - k)).map fun t => gapV A O k j (k + t))
      rw [gluI_succ _ _ _ _ _ _ hj, List.map_append] at hs
      have hl : ((A.getD j []).map D.int).length + (((List.range (m - k)).map fun t => gapV A O k j (k + t)).map D.int).length ≤ lim := by
        rw [List.length_map, List.length_map, List.length_map, List.length_range, h.dA.tab.sq.row j hj]
        unfold lim
        omega
      simp only [List.set_cons_succ, List.set_cons_zero]
      generalize oom (gluI (gapV A O k) k n m A j) = L0 at *
      generalize oom (gluI (gapV A O k) k n m A (j + 1)) = L1 at *
      generalize eComp [6] (iR2 (eV 2) (e1 oLen (eP 1))) (gN 6) tYes (eCall G.F_gap [.va (eV 0), .va (eV 1), .va (eV 2), .va (eV 5), .va (eV 6)]) = Y at hc ⊢
      generalize ((List.range (m - k)).map fun t => gapV A O k j (k + t)).map D.int = R at *
      generalize (A.getD j []).map D.int = R0 at *
      have hl' : R0.length + R.length ≤ lim := hl
      simp [hc, hg, hs, hl'])
  rw [← rng_range'] at h1
  have f1 : sFor (iR1 (eV 3)) (gN 5) (sAugIx 4 (nV 5) (eComp [6] (iR2 (eV 2) (e1 oLen (eP 1))) (gN 6) tYes (eCall G.F_gap [.va (eV 0), .va (eV 1), .va (eV 2), .va (eV 5), .va (eV 6)]))) [some (.v (tt A)), some (.v (tt O)), some (.v (.int (k : Int))), some (.v (.int (n : Int))), some (.oo (oom A)), none, none, none] = .nxt [some (.v (tt A)), some (.v (tt O)), some (.v (.int (k : Int))), some (.v (.int (n : Int))), some (.oo (oom (gluI (gapV A O k) k n m A n))), r5, none, none] := by
    rw [s_sFor, iR1_nat (n := n) (e' := [some (.v (tt A)), some (.v (tt O)), some (.v (.int (k : Int))), some (.v (.int (n : Int))), some (.oo (oom A)), none, none, none]) (by simp) (by omega)]
    exact h1
  obtain ⟨z5, rfl⟩ := hz (by omega)
  obtain ⟨e4, h2, r6, _, rfl⟩ := forGoR (g := gN 6) (b := (sDrop (mAppO 4 (e2 oAdd (eComp [5] (iR1 (eV 3)) (gN 5) tYes (eCall G.F_gap [.va (eV 0), .va (eV 1), .va (eV 2), .va (eV 5), .va (eV 6)])) (e1 oList (eCut (eIxP 1 (eV 6)) (pSome (eV 2)) pNo))))))
    (fun j e => ∃ r6, k ≤ j ∧ e = [some (.v (tt A)), some (.v (tt O)), some (.v (.int (k : Int))), some (.v (.int (n : Int))), some (.oo (oom (gluI (gapV A O k) k n m A n ++ (List.range (j - k)).map fun t => ((List.range n).map fun i => gapV A O k i (k + t)) ++ (O.getD (k + t) []).drop k))), some (.v z5), r6, none]) m (m - k) k [some (.v (tt A)), some (.v (tt O)), some (.v (.int (k : Int))), some (.v (.int (n : Int))), some (.oo (oom (gluI (gapV A O k) k n m A n))), some (.v z5), none, none] (by omega) ⟨none, by omega, by simp⟩ (by
      rintro j e hj ⟨r6, hkj, rfl⟩
      refine ⟨_, [some (.v (tt A)), some (.v (tt O)), some (.v (.int (k : Int))), some (.v (.int (n : Int))), some (.oo (oom (gluI (gapV A O k) k n m A n ++ (List.range (j + 1 - k)).map fun t => ((List.range n).map fun i => gapV A O k i (k + t)) ++ (O.getD (k + t) []).drop k))), some (.v z5), some (.v (.int (j : Int))), none], rfl, ?_, _, by omega, rfl⟩
      have hr : (List.range (j + 1 - k)).map (fun t => ((List.range n).map fun i => gapV A O k i (k + t)) ++ (O.getD (k + t) []).drop k) = (List.range (j - k)).map (fun t => ((List.range n).map fun i => gapV A O k i (k + t)) ++ (O.getD (k + t) []).drop k) ++ [((List.range n).map fun i => gapV A O k i j) ++ (O.getD j []).drop k] := by
        rw [show j + 1 - k = (j - k) + 1 by omega, List.range_succ, List.map_append, List.map_singleton, show k + (j - k) = j by omega]
      rw [hr, ← List.append_assoc]
      have hlen : (oom (gluI (gapV A O k) k n m A n ++ (List.range (j - k)).map fun t => ((List.range n).map fun i => gapV A O k i (k + t)) ++ (O.getD (k + t) []).drop k)).length < lim := by
        unfold oom gluI
        simp
        unfold lim
        omega
      have hsn := oom_snoc (gluI (gapV A O k) k n m A n ++ (List.range (j - k)).map fun t => ((List.range n).map fun i => gapV A O k i (k + t)) ++ (O.getD (k + t) []).drop k) (((List.range n).map fun i => gapV A O k i j) ++ (O.getD j []).drop k)
      rw [List.map_append] at hsn
      generalize oom (gluI (gapV A O k) k n m A n ++ (List.range (j - k)).map fun t => ((List.range n).map fun i => gapV A O k i (k + t)) ++ (O.getD (k + t) []).drop k) = L0 at *
      generalize oom (gluI (gapV A O k) k n m A n ++ (List.range (j - k)).map (fun t => ((List.range n).map fun i => gapV A O k i (k + t)) ++ (O.getD (k + t) []).drop k) ++ [((List.range n).map fun i => gapV A O k i j) ++ (O.getD j []).drop k]) = L1 at *
      have hc := eCompAV (k := 5) (d0 := z5) (it := iR1 (eV 3)) (x := eCall G.F_gap [.va (eV 0), .va (eV 1), .va (eV 2), .va (eV 5), .va (eV 6)]) (e := [some (.v (tt A)), some (.v (tt O)), some (.v (.int (k : Int))), some (.v (.int (n : Int))), some (.oo L0), some (.v z5), some (.v (.int (j : Int))), none]) (f1 := [some (.v (tt A)), some (.v (tt O)), some (.v (.int (k : Int))), some (.v (.int (n : Int))), some (.oo L0), some (.v z5), some (.v (.int (j : Int))), none]) (l := rng 0 n)
        (fun c => .int (gapV A O k c.nat j)) (iR1_nat (by simp) (by omega)) (by rw [rng_len]; unfold lim; omega) rfl (fun c hc => by
          obtain ⟨i, hi, rfl⟩ := rng_mem hc
          have e0 : (0 : Int) + (i : Int) = (i : Int) := by omega
          rw [e0]
          have hs := gap_ok h (i := i) (j := j) hi hj
          have hnat : (D.int (i : Int)).nat = i := rfl
          rw [hnat]
          exact ⟨.v (.int (gapV A O k i j)), by simp [hs], rfl⟩)
      rw [row_ints n (fun i => gapV A O k i j)] at hc
      have gO : O[j]? = some (O.getD j []) := get_of (by omega) []
      have lrow := h.dO.tab.sq.row j hj
      have hcut : oCut (.v (ti (O.getD j []))) (some (k : Int)) none = some (.v (ti ((O.getD j []).drop k))) := by
        have := oCut_from ((O.getD j []).map D.int) k (by rw [List.length_map]; omega)
        rw [← List.map_drop] at this
        exact this
      have hlst : oList (.v (ti ((O.getD j []).drop k))) = some (.o (((O.getD j []).drop k).map .int)) := rfl
      have hl : (((List.range n).map fun i => gapV A O k i j).map D.int).length + (((O.getD j []).drop k).map D.int).length ≤ lim := by
        rw [List.length_map, List.length_map, List.length_map, List.length_range, List.length_drop, lrow]
        unfold lim
        omega
      simp only [List.set_cons_succ, List.set_cons_zero]
      generalize (O.getD j []).drop k = Od at *
      generalize O.getD j [] = Oj at *
      generalize eComp [5] (iR1 (eV 3)) (gN 5) tYes (eCall G.F_gap [.va (eV 0), .va (eV 1), .va (eV 2), .va (eV 5), .va (eV 6)]) = Y at hc ⊢
      generalize ((List.range n).map fun i => gapV A O k i j).map D.int = R at *
      generalize Od.map D.int = R0 at *
      simp [hc, gO, hcut, hlst, oAdd, hl, hlen, hsn, pNo, pSome, Vl.int])
  rw [← rng_rangek] at h2
  have f2 : sFor (iR2 (eV 2) (e1 oLen (eP 1))) (gN 6) (sDrop (mAppO 4 (e2 oAdd (eComp [5] (iR1 (eV 3)) (gN 5) tYes (eCall G.F_gap [.va (eV 0), .va (eV 1), .va (eV 2), .va (eV 5), .va (eV 6)])) (e1 oList (eCut (eIxP 1 (eV 6)) (pSome (eV 2)) pNo))))) [some (.v (tt A)), some (.v (tt O)), some (.v (.int (k : Int))), some (.v (.int (n : Int))), some (.oo (oom (gluI (gapV A O k) k n m A n))), some (.v z5), none, none] = .nxt [some (.v (tt A)), some (.v (tt O)), some (.v (.int (k : Int))), some (.v (.int (n : Int))), some (.oo (oom (gluI (gapV A O k) k n m A n ++ (List.range (m - k)).map fun t => ((List.range n).map fun i => gapV A O k i (k + t)) ++ (O.getD (k + t) []).drop k))), some (.v z5), r6, none] := by
    rw [s_sFor, iR2_nat (i := k) (j := m) (e1 := [some (.v (tt A)), some (.v (tt O)), some (.v (.int (k : Int))), some (.v (.int (n : Int))), some (.oo (oom (gluI (gapV A O k) k n m A n))), some (.v z5), none, none]) (e' := [some (.v (tt A)), some (.v (tt O)), some (.v (.int (k : Int))), some (.v (.int (n : Int))), some (.oo (oom (gluI (gapV A O k) k n m A n))), some (.v z5), none, none]) (by simp) (by simp [lO]) (by omega) (by omega)]
    exact h2
  have hI : gluI (gapV A O k) k n m A n ++ (List.range (m - k)).map (fun t => ((List.range n).map fun i => gapV A O k i (k + t)) ++ (O.getD (k + t) []).drop k) = gluT (gapV A O k) k n m A O := by
    unfold gluI gluT
    congr 1
    refine List.map_congr_left fun i hi => ?_
    rw [List.mem_range] at hi
    rw [if_pos hi]
  rw [hI] at f2
  have lG : (gluT (gapV A O k) k n m A O).length ≤ 1000 := by
    unfold gluT
    simp
    omega
  have fin := eCompA (k := 7) (it := iL (eV 4)) (x := e1 oTuple (eP 7)) (e := [some (.v (tt A)), some (.v (tt O)), some (.v (.int (k : Int))), some (.v (.int (n : Int))), some (.oo (oom (gluT (gapV A O k) k n m A O))), some (.v z5), r6, none]) (e1 := [some (.v (tt A)), some (.v (tt O)), some (.v (.int (k : Int))), some (.v (.int (n : Int))), some (.v (.lst ((oom (gluT (gapV A O k) k n m A O)).map .lst))), some (.v z5), r6, none]) (l := (oom (gluT (gapV A O k) k n m A O)).map .lst)
    ltD (by simp) (by
      rw [List.length_map]
      unfold oom
      rw [List.length_map]
      unfold lim
      omega) rfl (fun d hd => by
      obtain ⟨r, _, rfl⟩ := List.mem_map.mp hd
      exact ⟨.v (.tup r), by simp, rfl⟩)
  rw [oom_rows] at fin
  have ho : oTuple (.o ((gluT (gapV A O k) k n m A O).map ti)) = some (.v (tt (gluT (gapV A O k) k n m A O))) := rfl
  unfold G.F_least_glued G.c_least_glued
  generalize sFor (iR1 (eV 3)) (gN 5) (sAugIx 4 (nV 5) (eComp [6] (iR2 (eV 2) (e1 oLen (eP 1))) (gN 6) tYes (eCall G.F_gap [.va (eV 0), .va (eV 1), .va (eV 2), .va (eV 5), .va (eV 6)]))) = Y at f1 ⊢
  generalize sFor (iR2 (eV 2) (e1 oLen (eP 1))) (gN 6) (sDrop (mAppO 4 (e2 oAdd (eComp [5] (iR1 (eV 3)) (gN 5) tYes (eCall G.F_gap [.va (eV 0), .va (eV 1), .va (eV 2), .va (eV 5), .va (eV 6)])) (e1 oList (eCut (eIxP 1 (eV 6)) (pSome (eV 2)) pNo))))) = Z at f2 ⊢
  generalize eCompO [7] (iL (eV 0)) (gN 7) tYes (e1 oList (eP 7)) = U at h0 ⊢
  generalize eComp [7] (iL (eV 4)) (gN 7) tYes (e1 oTuple (eP 7)) = V at fin ⊢
  generalize gluT (gapV A O k) k n m A O = GG at *
  generalize GG.map ti = GT at *
  simp [hsh, lA, h0, f1, f2, fin, ho, -tuple_o]
end Fx
end

section
set_option linter.all false
set_option maxRecDepth 10000
namespace Fx
/-! what the tables of both hold -/
theorem getD_app2 {α : Type} (l l2 : List α) (d : α) (i : Nat) : (l ++ l2).getD i d = if i < l.length then l.getD i d else l2.getD (i - l.length) d := by
  unfold List.getD
  by_cases q : i < l.length
  · rw [List.getElem?_append_left q, if_pos q]
  · rw [List.getElem?_append_right (by omega), if_neg q]
theorem gD_snoc (r : List Int) (e : Int) (i : Nat) (h : i < r.length) : (r ++ [e]).getD i 0 = r.getD i 0 := by rw [getD_app, if_pos h]
theorem gD_last (r : List Int) (e : Int) : (r ++ [e]).getD r.length 0 = e := by rw [getD_app, if_neg (by omega), if_pos rfl]
theorem getD_mapR {α : Type} (f : Nat → α) (n i : Nat) (d : α) (h : i < n) : ((List.range n).map f).getD i d = f i := by simp [List.getD, h]
section
variable {f : Nat → Nat → Int} {k n m : Nat} {A O : List (List Int)}
theorem glu_row_lo {i : Nat} (hi : i < n) : (gluT f k n m A O).getD i [] = A.getD i [] ++ (List.range (m - k)).map fun t => f i (k + t) := by
  unfold gluT
  rw [getD_app2, if_pos (by simpa using hi), getD_mapR _ _ _ _ hi]
theorem glu_row_hi {t : Nat} (ht : t < m - k) : (gluT f k n m A O).getD (n + t) [] = ((List.range n).map fun i => f i (k + t)) ++ (O.getD (k + t) []).drop k := by
  unfold gluT
  rw [getD_app2, if_neg (by simp), List.length_map, List.length_range, show n + t - n = t by omega, getD_mapR _ _ _ _ ht]
theorem glu_ll (hA : Sq n A) {i j : Nat} (hi : i < n) (hj : j < n) : at2 (gluT f k n m A O) i j = at2 A i j := by
  unfold at2
  rw [glu_row_lo hi, getD_app2, hA.row i hi, if_pos hj]
theorem glu_lh (hA : Sq n A) {i t : Nat} (hi : i < n) (ht : t < m - k) : at2 (gluT f k n m A O) i (n + t) = f i (k + t) := by
  unfold at2
  rw [glu_row_lo hi, getD_app2, hA.row i hi, if_neg (by omega), show n + t - n = t by omega, getD_mapR _ _ _ _ ht]
theorem glu_hl {t j : Nat} (ht : t < m - k) (hj : j < n) : at2 (gluT f k n m A O) (n + t) j = f j (k + t) := by
  unfold at2
  rw [glu_row_hi ht, getD_app2, List.length_map, List.length_range, if_pos hj, getD_mapR _ _ _ _ hj]
theorem glu_hh {t s : Nat} (ht : t < m - k) : at2 (gluT f k n m A O) (n + t) (n + s) = at2 O (k + t) (k + s) := by
  unfold at2
  rw [glu_row_hi ht, getD_app2, List.length_map, List.length_range, if_neg (by omega), show n + s - n = s by omega]
  unfold List.getD
  rw [List.getElem?_drop]
theorem glu_sq (hA : Sq n A) (hO : Sq m O) (hk : k ≤ m) : Sq (n + m - k) (gluT f k n m A O) := by
  refine ⟨by unfold gluT; simp; omega, fun i hi => ?_⟩
  by_cases q : i < n
  · rw [glu_row_lo q, List.length_append, hA.row i q]
    simp
    omega
  · rw [show i = n + (i - n) by omega, glu_row_hi (show i - n < m - k by omega), List.length_append, List.length_drop, hO.row _ (by omega)]
    simp
    omega
end
theorem wide_tab {n : Nat} {T : List (List Int)} {r : List Int} {top : Int} (h : TabI n top T) (lr : r.length = n) (hr : ∀ i, i < n → 0 ≤ r.getD i 0 ∧ r.getD i 0 ≤ top) (h0 : 0 ≤ top) : TabI (n + 1) top (wide n T r) := by
  have sq := h.sq
  have c : ∀ i, i < n + 1 → i < n ∨ i = n := fun i hi => by omega
  refine ⟨wide_sq sq lr, fun a b ha hb => ?_, fun a b ha hb => ?_, fun a ha => ?_⟩
  · rcases c a ha with p | rfl <;> rcases c b hb with q | q
    · rw [wide_at sq lr p q, wide_at sq lr q p]; exact h.sy a b p q
    · subst q; rw [wide_in sq lr p, wide_ni lr p]
    · rw [wide_ni lr q, wide_in sq lr q]
    · subst q; rfl
  · rcases c a ha with p | rfl <;> rcases c b hb with q | q
    · rw [wide_at sq lr p q]; exact h.rg a b p q
    · subst q; rw [wide_in sq lr p]; exact hr a p
    · rw [wide_ni lr q]; exact hr b q
    · subst q; rw [wide_nn lr]; exact ⟨Int.le_refl 0, h0⟩
  · rcases c a ha with p | rfl
    · rw [wide_at sq lr p p]; exact h.dg a p
    · exact wide_nn lr
theorem mnR_range {n : Nat} {g : Nat → Int} {v : Int} (hv : ∃ i, i < n ∧ g i = v) (h : ∀ i, i < n → v ≤ g i) : mnR ((List.range n).map g) = v := by
  obtain ⟨i, hi, rfl⟩ := hv
  have h1 : mnR ((List.range n).map g) ≤ g i := mnR_le (List.mem_map.mpr ⟨i, by simp [hi], rfl⟩)
  have h2 : mnR ((List.range n).map g) ∈ (List.range n).map g := mnR_mem (by intro z; rw [List.map_eq_nil_iff, List.range_eq_nil] at z; omega)
  obtain ⟨j, hj, e⟩ := List.mem_map.mp h2
  have := h j (by simpa using hj)
  omega
theorem gapR_range {r s : List Int} {n : Nat} (hr : r.length = n) (hs : s.length = n) : gapR r s = mxR ((List.range n).map fun k => ab (r.getD k 0 - s.getD k 0)) := by
  unfold gapR
  congr 1
  refine List.ext_getElem? fun i => ?_
  rw [List.getElem?_map, List.getElem?_map]
  rcases Nat.lt_or_ge i n with q | q
  · have : (r.zip s)[i]? = some (r.getD i 0, s.getD i 0) := by
      rw [List.getElem?_zip_eq_some]
      exact ⟨get_of (by omega) 0, get_of (by omega) 0⟩
    rw [this]
    simp [q]
  · rw [List.getElem?_eq_none (show (r.zip s).length ≤ i by rw [List.length_zip]; omega), List.getElem?_eq_none (show (List.range n).length ≤ i by simp; omega)]
    rfl
section
variable {n : Nat} {T : List (List Int)} {r o : List Int}
theorem Fit.gap_row (h : Fit n T r) (hD : Dst n T) {k : Nat} (hk : k < n) : gapR (T.getD k []) r = r.getD k 0 := by
  have lk := hD.tab.sq.row k hk
  have e : ∀ i, (T.getD k []).getD i 0 = at2 T k i := fun i => rfl
  obtain ⟨a, ha, ea⟩ := gapR_at lk h.len (show 1 ≤ n by omega)
  have h1 := gapR_ge lk h.len hk
  rw [e, hD.tab.dg k hk] at h1
  have h0 := (h.ps k hk).1
  have h2 : ab (at2 T k a - r.getD a 0) ≤ r.getD k 0 := by
    rw [ab_le]
    have h3 := h.gap a k ha hk
    have h4 := h.sum k a hk ha
    rw [hD.tab.sy a k ha hk] at h3
    omega
  rw [e] at ea
  have h5 : r.getD k 0 ≤ ab (0 - r.getD k 0) := by unfold ab; split <;> omega
  omega
theorem pair_shr (hD : Dst n T) (h1 : 1 ≤ n) (h6 : n ≤ 6) (hr : Fit n T r) (ho : Fit n T o) : Shr (n + 1) (n + 1) n (wide n T r) (wide n T o) :=
  ⟨wide_dst hD hr, wide_dst hD ho, h1, by omega, by omega, by omega, fun i j hi hj => by rw [wide_at hD.tab.sq hr.len hi hj, wide_at hD.tab.sq ho.len hi hj]⟩
theorem pair_step (hD : Dst n T) (hr : Fit n T r) (ho : Fit n T o) {i : Nat} (hi : i < n) : stepV (wide n T r) (wide n T o) n i n = o.getD i 0 := by
  unfold stepV
  refine mnR_range ⟨i, hi, ?_⟩ fun s hs => ?_
  · rw [wide_at hD.tab.sq hr.len hi hi, wide_in hD.tab.sq ho.len hi, hD.tab.dg i hi]; omega
  · rw [wide_at hD.tab.sq hr.len hi hs, wide_in hD.tab.sq ho.len hs]
    have := ho.gap i s hi hs
    omega
/-- the least way round -/
def sumV (n : Nat) (r o : List Int) : Int := mnR ((List.range n).map fun k => r.getD k 0 + o.getD k 0)
theorem pair_sum (hD : Dst n T) (hr : Fit n T r) (ho : Fit n T o) : stepV (wide n T r) (wide n T o) n n n = sumV n r o := by
  unfold stepV sumV
  congr 1
  refine List.map_congr_left fun s hs => ?_
  rw [List.mem_range] at hs
  rw [wide_ni hr.len hs, wide_in hD.tab.sq ho.len hs]
theorem pair_gap (hD : Dst n T) (hr : Fit n T r) (ho : Fit n T o) : gapV (wide n T r) (wide n T o) n n n = gapR r o := by
  rw [gapR_range hr.len ho.len]
  unfold gapV
  congr 1
  refine List.map_congr_left fun s hs => ?_
  rw [List.mem_range] at hs
  rw [wide_ni hr.len hs, wide_in hD.tab.sq ho.len hs]
theorem sumV_le {k : Nat} (hk : k < n) : sumV n r o ≤ r.getD k 0 + o.getD k 0 := mnR_le (List.mem_map.mpr ⟨k, by simp [hk], rfl⟩)
theorem sumV_at (h1 : 1 ≤ n) : ∃ k, k < n ∧ sumV n r o = r.getD k 0 + o.getD k 0 := by
  have h2 : sumV n r o ∈ (List.range n).map fun k => r.getD k 0 + o.getD k 0 := mnR_mem (by intro z; rw [List.map_eq_nil_iff, List.range_eq_nil] at z; omega)
  obtain ⟨j, hj, e⟩ := List.mem_map.mp h2
  exact ⟨j, by simpa using hj, e.symm⟩
theorem gap_sum (hD : Dst n T) (h1 : 1 ≤ n) (hr : Fit n T r) (ho : Fit n T o) : gapR r o ≤ sumV n r o := by
  obtain ⟨k, hk, e⟩ := sumV_at (r := r) (o := o) h1
  obtain ⟨j, hj, e2⟩ := gapR_at hr.len ho.len h1
  rw [e, e2, ab_le]
  have g1 := hr.gap j k hj hk
  have g2 := ho.gap j k hj hk
  have s1 := hr.sum j k hj hk
  have s2 := ho.sum j k hj hk
  omega
theorem pair_fit (hD : Dst n T) (hr : Fit n T r) (ho : Fit n T o) {z : Int} (z0 : 0 < z) (z1 : z ≤ 1000) (hg : gapR r o ≤ z) (hs : z ≤ sumV n r o) : Fit (n + 1) (wide n T r) (o ++ [z]) := by
  have sq := hD.tab.sq
  have c : ∀ i, i < n + 1 → i < n ∨ i = n := fun i hi => by omega
  have lo : ∀ i, i < n → (o ++ [z]).getD i 0 = o.getD i 0 := fun i hi => gD_snoc _ _ _ (by rw [ho.len]; exact hi)
  have la : (o ++ [z]).getD n 0 = z := by
    have := gD_last o z
    rwa [ho.len] at this
  have gp : ∀ i, i < n → r.getD i 0 ≤ o.getD i 0 + z ∧ o.getD i 0 ≤ r.getD i 0 + z := fun i hi => by
    have := gapR_ge hr.len ho.len hi
    have h2 : ab (r.getD i 0 - o.getD i 0) ≤ z := by omega
    rw [ab_le] at h2
    omega
  have sm : ∀ i, i < n → z ≤ r.getD i 0 + o.getD i 0 := fun i hi => Int.le_trans hs (sumV_le hi)
  refine ⟨by simp [ho.len], fun i hi => ?_, fun i j hi hj => ?_, fun i j hi hj => ?_⟩
  · rcases c i hi with p | rfl
    · rw [lo i p]; exact ho.ps i p
    · rw [la]; omega
  · rcases c i hi with p | rfl <;> rcases c j hj with q | q
    · rw [wide_at sq hr.len p q, lo i p, lo j q]; exact ho.sum i j p q
    · subst q; rw [wide_in sq hr.len p, lo i p, la]; have := gp i p; omega
    · rw [wide_ni hr.len q, la, lo j q]; have := gp j q; omega
    · subst q; rw [wide_nn hr.len, la]; omega
  · rcases c i hi with p | rfl <;> rcases c j hj with q | q
    · rw [wide_at sq hr.len p q, lo i p, lo j q]; have := ho.gap i j p q; omega
    · subst q; rw [wide_in sq hr.len p, lo i p, la]; have := gp i p; omega
    · rw [wide_ni hr.len q, la, lo j q]; have := sm j q; omega
    · subst q; rw [wide_nn hr.len, la]; omega
/-- the table that is made of both, with one number changed -/
theorem pair_made (hD : Dst n T) (h1 : 1 ≤ n) (h6 : n ≤ 6) (hr : Fit n T r) (ho : Fit n T o) (z : Int) :
    fnT (n + 2) (fun x y => if (x = n ∧ y = n + 1) ∨ (x = n + 1 ∧ y = n) then z else at2 (gluT (stepV (wide n T r) (wide n T o) n) n (n + 1) (n + 1) (wide n T r) (wide n T o)) x y) = wide (n + 1) (wide n T r) (o ++ [z]) := by
  have sq := hD.tab.sq
  have sA := wide_sq (r := r) sq hr.len
  have l2 : (o ++ [z]).length = n + 1 := by simp [ho.len]
  have lo : ∀ i, i < n → (o ++ [z]).getD i 0 = o.getD i 0 := fun i hi => gD_snoc _ _ _ (by rw [ho.len]; exact hi)
  have la : (o ++ [z]).getD n 0 = z := by
    have := gD_last o z
    rwa [ho.len] at this
  have c : ∀ i, i < n + 2 → i < n ∨ i = n ∨ i = n + 1 := fun i hi => by omega
  have e0 : n + 1 = (n + 1) + 0 := rfl
  refine sq_ext (n := n + 2) (fnT_sq _ _) (wide_sq sA l2) fun i hi j hj => ?_
  rw [fnT_at _ hi hj]
  rcases c i hi with p | rfl | rfl <;> rcases c j hj with q | q | q
  · rw [if_neg (by omega), glu_ll sA (by omega) (by omega), wide_at (n := n + 1) sA l2 (by omega) (by omega)]
  · subst q
    rw [if_neg (by omega), glu_ll sA (by omega) (by omega), wide_at (n := j + 1) sA l2 (by omega) (by omega)]
  · subst q
    rw [if_neg (by omega), wide_in (n := n + 1) sA l2 (by omega), lo i p]
    have := glu_lh (f := stepV (wide n T r) (wide n T o) n) (k := n) (m := n + 1) (O := wide n T o) sA (show i < n + 1 by omega) (show 0 < n + 1 - n by omega)
    exact this.trans (pair_step hD hr ho p)
  · rw [if_neg (by omega), glu_ll sA (by omega) (by omega), wide_at (n := i + 1) sA l2 (by omega) (by omega)]
  · subst q
    rw [if_neg (by omega), glu_ll sA (by omega) (by omega), wide_at (n := j + 1) sA l2 (by omega) (by omega)]
  · subst q
    rw [if_pos (by omega), wide_in (n := i + 1) sA l2 (by omega), la]
  · rw [if_neg (by omega), wide_ni (n := n + 1) l2 (by omega), lo j q]
    have := glu_hl (f := stepV (wide n T r) (wide n T o) n) (k := n) (m := n + 1) (A := wide n T r) (O := wide n T o) (show 0 < n + 1 - n by omega) (show j < n + 1 by omega)
    exact this.trans (pair_step hD hr ho q)
  · subst q
    rw [if_pos (by omega), wide_ni (n := j + 1) l2 (by omega), la]
  · subst q
    rw [if_neg (by omega), wide_nn (n := n + 1) l2]
    have := glu_hh (f := stepV (wide n T r) (wide n T o) n) (k := n) (n := n + 1) (m := n + 1) (A := wide n T r) (O := wide n T o) (t := 0) (s := 0) (by omega)
    exact this.trans (wide_nn ho.len)
end
end Fx
end

section
set_option linter.all false
set_option maxRecDepth 10000
namespace Fx
/-! the table of both is one of distances -/
section
variable {A O : List (List Int)} {k n m : Nat}
theorem step_le {i j s : Nat} (hs : s < k) : stepV A O k i j ≤ at2 A i s + at2 O s j := mnR_le (List.mem_map.mpr ⟨s, by simp [hs], rfl⟩)
theorem step_at (h1 : 1 ≤ k) (i j : Nat) : ∃ s, s < k ∧ stepV A O k i j = at2 A i s + at2 O s j := by
  have h2 : stepV A O k i j ∈ (List.range k).map fun s => at2 A i s + at2 O s j := mnR_mem (by intro z; rw [List.map_eq_nil_iff, List.range_eq_nil] at z; omega)
  obtain ⟨s, hs, e⟩ := List.mem_map.mp h2
  exact ⟨s, by simpa using hs, e.symm⟩
theorem gap_ge {i j s : Nat} (hs : s < k) : ab (at2 A i s - at2 O s j) ≤ gapV A O k i j := mxR_ge (List.mem_map.mpr ⟨s, by simp [hs], rfl⟩)
theorem gap_at (h1 : 1 ≤ k) (i j : Nat) : ∃ s, s < k ∧ gapV A O k i j = ab (at2 A i s - at2 O s j) := by
  have h2 : gapV A O k i j ∈ (List.range k).map fun s => ab (at2 A i s - at2 O s j) := mxR_mem (by intro z; rw [List.map_eq_nil_iff, List.range_eq_nil] at z; omega)
  obtain ⟨s, hs, e⟩ := List.mem_map.mp h2
  exact ⟨s, by simpa using hs, e.symm⟩
/-- low and high places -/
theorem lohi (km : k ≤ m) {i : Nat} (hi : i < n + m - k) : i < n ∨ ∃ t, t < m - k ∧ i = n + t := by
  rcases Nat.lt_or_ge i n with q | q
  · exact .inl q
  · exact .inr ⟨i - n, by omega, by omega⟩
theorem glu_dst (h : Shr n m k A O) (bA : ∀ i j, i < n → j < n → at2 A i j ≤ 500) (bO : ∀ i j, i < m → j < m → at2 O i j ≤ 500) : Dst (n + m - k) (gluT (stepV A O k) k n m A O) := by
  have sA := h.dA.tab.sq
  have sO := h.dO.tab.sq
  have k1 := h.k1
  have kn := h.kn
  have km := h.km
  have ll : ∀ i j, i < n → j < n → at2 (gluT (stepV A O k) k n m A O) i j = at2 A i j := fun i j hi hj => glu_ll sA hi hj
  have lh : ∀ i t, i < n → t < m - k → at2 (gluT (stepV A O k) k n m A O) i (n + t) = stepV A O k i (k + t) := fun i t hi ht => glu_lh sA hi ht
  have hl : ∀ t j, t < m - k → j < n → at2 (gluT (stepV A O k) k n m A O) (n + t) j = stepV A O k j (k + t) := fun t j ht hj => glu_hl ht hj
  have hh : ∀ t s, t < m - k → at2 (gluT (stepV A O k) k n m A O) (n + t) (n + s) = at2 O (k + t) (k + s) := fun t s ht => glu_hh ht
  have sqG := glu_sq (f := stepV A O k) (k := k) sA sO km
  generalize gluT (stepV A O k) k n m A O = GG at *
  have rA : ∀ i j, i < n → j < n → 0 ≤ at2 A i j := fun i j hi hj => (h.dA.tab.rg i j hi hj).1
  have rO : ∀ i j, i < m → j < m → 0 ≤ at2 O i j := fun i j hi hj => (h.dO.tab.rg i j hi hj).1
  have sy : ∀ a b, a < n + m - k → b < n + m - k → at2 GG a b = at2 GG b a := fun a b ha hb => by
    rcases lohi km ha with p | ⟨t, ht, rfl⟩ <;> rcases lohi km hb with q | ⟨s, hs, rfl⟩
    · rw [ll a b p q, ll b a q p]; exact h.dA.tab.sy a b p q
    · rw [lh a s p hs, hl s a hs p]
    · rw [hl t b ht q, lh b t q ht]
    · rw [hh t s ht, hh s t hs]; exact h.dO.tab.sy _ _ (by omega) (by omega)
  -- the ways
  have t1 : ∀ i j t, i < n → j < n → t < m - k → at2 A i j ≤ stepV A O k i (k + t) + stepV A O k j (k + t) := fun i j t hi hj ht => by
    obtain ⟨s, hs, e⟩ := step_at (A := A) (O := O) k1 i (k + t)
    obtain ⟨s', hs', e'⟩ := step_at (A := A) (O := O) k1 j (k + t)
    have a1 := h.dA.tr s i j (by omega) hi hj
    have a2 := h.dA.tr s' s j (by omega) (by omega) hj
    have a3 := h.dO.tr (k + t) s s' (by omega) (by omega) (by omega)
    have a4 := h.eq s s' hs hs'
    have a5 := h.dA.tab.sy s' j (by omega) hj
    have a6 := h.dO.tab.sy (k + t) s' (by omega) (by omega)
    omega
  have t2 : ∀ i j t, i < n → j < n → t < m - k → stepV A O k i (k + t) ≤ at2 A i j + stepV A O k j (k + t) := fun i j t hi hj ht => by
    obtain ⟨s, hs, e⟩ := step_at (A := A) (O := O) k1 j (k + t)
    have a1 := step_le (A := A) (O := O) (i := i) (j := k + t) hs
    have a2 := h.dA.tr j i s hj hi (by omega)
    omega
  have t3 : ∀ i t u, i < n → t < m - k → u < m - k → stepV A O k i (k + t) ≤ stepV A O k i (k + u) + at2 O (k + u) (k + t) := fun i t u hi ht hu => by
    obtain ⟨s, hs, e⟩ := step_at (A := A) (O := O) k1 i (k + u)
    have a1 := step_le (A := A) (O := O) (i := i) (j := k + t) hs
    have a2 := h.dO.tr (k + u) s (k + t) (by omega) (by omega) (by omega)
    omega
  have t4 : ∀ i t u, i < n → t < m - k → u < m - k → at2 O (k + t) (k + u) ≤ stepV A O k i (k + t) + stepV A O k i (k + u) := fun i t u hi ht hu => by
    obtain ⟨s, hs, e⟩ := step_at (A := A) (O := O) k1 i (k + t)
    obtain ⟨s', hs', e'⟩ := step_at (A := A) (O := O) k1 i (k + u)
    have a1 := h.dO.tr s (k + t) (k + u) (by omega) (by omega) (by omega)
    have a2 := h.dO.tr s' s (k + u) (by omega) (by omega) (by omega)
    have a3 := h.dA.tr i s s' hi (by omega) (by omega)
    have a4 := h.eq s s' hs hs'
    have a5 := h.dA.tab.sy s i (by omega) hi
    have a6 := h.dO.tab.sy (k + t) s (by omega) (by omega)
    omega
  have tri : ∀ c a b, c < n + m - k → a < n + m - k → b < n + m - k → at2 GG a b ≤ at2 GG a c + at2 GG c b := fun c a b hc ha hb => by
    rcases lohi km ha with p | ⟨t, ht, rfl⟩ <;> rcases lohi km hb with q | ⟨s, hs, rfl⟩ <;> rcases lohi km hc with r | ⟨u, hu, rfl⟩
    · rw [ll a b p q, ll a c p r, ll c b r q]; exact h.dA.tr c a b r p q
    · rw [ll a b p q, lh a u p hu, hl u b hu q]; exact t1 a b u p q hu
    · rw [lh a s p hs, ll a c p r, lh c s r hs]; exact t2 a c s p r hs
    · rw [lh a s p hs, lh a u p hu, hh u s hu]; exact t3 a s u p hs hu
    · rw [hl t b ht q, hl t c ht r, ll c b r q]
      have := t2 b c t q r ht
      have := h.dA.tab.sy b c q r
      omega
    · rw [hl t b ht q, hh t u ht, hl u b hu q]
      have := t3 b t u q ht hu
      have := h.dO.tab.sy (k + u) (k + t) (by omega) (by omega)
      omega
    · rw [hh t s ht, hl t c ht r, lh c s r hs]; exact t4 c t s r ht hs
    · rw [hh t s ht, hh t u ht, hh u s hu]; exact h.dO.tr _ _ _ (by omega) (by omega) (by omega)
  refine ⟨⟨sqG, sy, fun a b ha hb => ?_, fun a ha => ?_⟩, fun a b ha hb hab => ?_, tri⟩
  · rcases lohi km ha with p | ⟨t, ht, rfl⟩ <;> rcases lohi km hb with q | ⟨s, hs, rfl⟩
    · rw [ll a b p q]; exact h.dA.tab.rg a b p q
    · rw [lh a s p hs]
      obtain ⟨z, hz, e⟩ := step_at (A := A) (O := O) k1 a (k + s)
      have := rA a z p (by omega)
      have := rO z (k + s) (by omega) (by omega)
      have := bA a z p (by omega)
      have := bO z (k + s) (by omega) (by omega)
      omega
    · rw [hl t b ht q]
      obtain ⟨z, hz, e⟩ := step_at (A := A) (O := O) k1 b (k + t)
      have := rA b z q (by omega)
      have := rO z (k + t) (by omega) (by omega)
      have := bA b z q (by omega)
      have := bO z (k + t) (by omega) (by omega)
      omega
    · rw [hh t s ht]; exact h.dO.tab.rg _ _ (by omega) (by omega)
  · rcases lohi km ha with p | ⟨t, ht, rfl⟩
    · rw [ll a a p p]; exact h.dA.tab.dg a p
    · rw [hh t t ht]; exact h.dO.tab.dg _ (by omega)
  · have pos : ∀ i t, i < n → t < m - k → 0 < stepV A O k i (k + t) := fun i t hi ht => by
      obtain ⟨z, hz, e⟩ := step_at (A := A) (O := O) k1 i (k + t)
      have := rA i z hi (by omega)
      have := h.dO.ps z (k + t) (by omega) (by omega) (by omega)
      omega
    rcases lohi km ha with p | ⟨t, ht, rfl⟩ <;> rcases lohi km hb with q | ⟨s, hs, rfl⟩
    · rw [ll a b p q]; exact h.dA.ps a b p q hab
    · rw [lh a s p hs]; exact pos a s p hs
    · rw [hl t b ht q]; exact pos b t q ht
    · rw [hh t s ht]; exact h.dO.ps _ _ (by omega) (by omega) (by omega)
end
end Fx
end

section
set_option linter.all false
set_option maxRecDepth 10000
namespace Fx
/-! parts of a table, glued again -/
def li (o : List Nat) : D := .lst (o.map fun (k : Nat) => D.int (k : Int))
theorem mv_row {T : List (List Int)} {o : List Nat} {i : Nat} (hi : i < o.length) : (mv T o).getD i [] = o.map fun j => at2 T (o.getD i 0) j := by
  unfold mv
  simp [List.getD, hi]
theorem mv_at {T : List (List Int)} {o : List Nat} {i j : Nat} (hi : i < o.length) (hj : j < o.length) : at2 (mv T o) i j = at2 T (o.getD i 0) (o.getD j 0) := by
  have := mv_row (T := T) hi
  show ((mv T o).getD i []).getD j 0 = _
  rw [this]
  simp [List.getD, hj]
theorem mv_sq (T : List (List Int)) (o : List Nat) : Sq o.length (mv T o) := by
  refine ⟨by simp [mv], fun i hi => ?_⟩
  rw [mv_row hi]
  simp
theorem gD_lt {n : Nat} {o : List Nat} (hm : ∀ x ∈ o, x < n) {i : Nat} (hi : i < o.length) : o.getD i 0 < n := hm _ (by simp [List.getD, hi])
theorem gD_mem {o : List Nat} {i : Nat} (hi : i < o.length) : o.getD i 0 ∈ o := by simp [List.getD, hi]
theorem gD_inj {o : List Nat} (hn : o.Nodup) {i j : Nat} (hi : i < o.length) (hj : j < o.length) (h : o.getD i 0 = o.getD j 0) : i = j := by
  have h1 := get_of hi 0
  have h2 := get_of hj 0
  rw [← h] at h2
  exact (List.getElem?_inj hi hn).mp (h1.trans h2.symm)
theorem mv_dst {n : Nat} {T : List (List Int)} {o : List Nat} (hD : Dst n T) (hn : o.Nodup) (hm : ∀ x ∈ o, x < n) : Dst o.length (mv T o) := by
  have b : ∀ i, i < o.length → o.getD i 0 < n := fun i hi => gD_lt hm hi
  refine ⟨⟨mv_sq T o, fun i j hi hj => ?_, fun i j hi hj => ?_, fun i hi => ?_⟩, fun i j hi hj hij => ?_, fun m i j hm' hi hj => ?_⟩
  · rw [mv_at hi hj, mv_at hj hi]; exact hD.tab.sy _ _ (b i hi) (b j hj)
  · rw [mv_at hi hj]; exact hD.tab.rg _ _ (b i hi) (b j hj)
  · rw [mv_at hi hi]; exact hD.tab.dg _ (b i hi)
  · rw [mv_at hi hj]; exact hD.ps _ _ (b i hi) (b j hj) fun z => hij (gD_inj hn hi hj z)
  · rw [mv_at hi hj, mv_at hi hm', mv_at hm' hj]; exact hD.tr _ _ _ (b m hm') (b i hi) (b j hj)
theorem law_part_ok {n : Nat} {T : List (List Int)} {o : List Nat} (hT : Sq n T) (hn : n ≤ 1000) (ho : o.length ≤ 1000) (hm : ∀ x ∈ o, x < n) : G.F__law_part [.v (tt T), .v (li o)] = .ok (.v (tt (mv T o))) [] := by
  have lT := hT.len
  have hc := eCompA (k := 2) (it := iL (eV 1)) (x := e1 oTuple (eComp [3] (iL (eV 1)) (gN 3) tYes (e2 oIx (eIxP 0 (eV 2)) (eV 3)))) (e := [some (.v (tt T)), some (.v (li o)), none, none]) (e1 := [some (.v (tt T)), some (.v (li o)), none, none]) (l := o.map fun (k : Nat) => D.int (k : Int))
    (fun c => ti (o.map fun j => at2 T c.nat j)) (by simp [li]) (by rw [List.length_map]; unfold lim; omega) rfl (fun c hc => by
      obtain ⟨a, ha, rfl⟩ := List.mem_map.mp hc
      have hnat : (D.int (a : Int)).nat = a := rfl
      rw [hnat]
      have hc := eCompA (k := 3) (it := iL (eV 1)) (x := e2 oIx (eIxP 0 (eV 2)) (eV 3)) (e := [some (.v (tt T)), some (.v (li o)), some (.v (.int (a : Int))), none]) (e1 := [some (.v (tt T)), some (.v (li o)), some (.v (.int (a : Int))), none]) (l := o.map fun (k : Nat) => D.int (k : Int))
        (fun c => .int (at2 T a c.nat)) (by simp [li]) (by rw [List.length_map]; unfold lim; omega) rfl (fun c hc => by
          obtain ⟨b, hb, rfl⟩ := List.mem_map.mp hc
          have hnat : (D.int (b : Int)).nat = b := rfl
          rw [hnat]
          have g1 : T[a]? = some (T.getD a []) := get_of (by have := hm a ha; omega) []
          have g2 : (T.getD a [])[b]? = some (at2 T a b) := by
            rw [get_of (by rw [hT.row a (hm a ha)]; exact hm b hb) 0]
            rfl
          generalize T.getD a [] = Ta at *
          exact ⟨.v (.int (at2 T a b)), by simp [g1, g2], rfl⟩)
      have e : (o.map fun (k : Nat) => D.int (k : Int)).map (fun c => D.int (at2 T a c.nat)) = (o.map fun j => at2 T a j).map .int := by
        rw [List.map_map, List.map_map]
        rfl
      rw [e] at hc
      have ht : oTuple (.o ((o.map fun j => at2 T a j).map .int)) = some (.v (ti (o.map fun j => at2 T a j))) := rfl
      refine ⟨.v (ti (o.map fun j => at2 T a j)), ?_, rfl⟩
      generalize (o.map fun j => at2 T a j) = r at *
      generalize r.map D.int = R at *
      generalize eComp [3] (iL (eV 1)) (gN 3) tYes (e2 oIx (eIxP 0 (eV 2)) (eV 3)) = Y at hc ⊢
      simp [hc, ht, -tuple_o])
  have e : (o.map fun (k : Nat) => D.int (k : Int)).map (fun c => ti (o.map fun j => at2 T c.nat j)) = (mv T o).map ti := by
    unfold mv
    rw [List.map_map, List.map_map]
    rfl
  rw [e] at hc
  have ht : oTuple (.o ((mv T o).map ti)) = some (.v (tt (mv T o))) := rfl
  unfold G.F__law_part G.c__law_part
  generalize mv T o = M at *
  generalize M.map ti = R at *
  generalize eComp [2] (iL (eV 1)) (gN 2) tYes _ = Y at hc ⊢
  simp [hc, ht, -tuple_o]
/-- two parts that share the first points -/
structure Prt (n k : Nat) (one other : List Nat) : Prop where
  k1 : 1 ≤ k
  nd : (one ++ other).Nodup
  ge : ∀ x ∈ one ++ other, k ≤ x
  lt : ∀ x ∈ one ++ other, x < n
  len : k + (one.length + other.length) = n
section
variable {n k : Nat} {one other : List Nat} {T : List (List Int)}
theorem Prt.swap (h : Prt n k one other) : Prt n k other one := by
  have p : (one ++ other).Perm (other ++ one) := List.perm_append_comm
  exact ⟨h.k1, p.nodup_iff.mp h.nd, fun x hx => h.ge x (p.mem_iff.mpr hx), fun x hx => h.lt x (p.mem_iff.mpr hx), by have := h.len; omega⟩
/-- the first points and more -/
def fst' (k : Nat) (one : List Nat) : List Nat := List.range k ++ one
theorem fst_len (k : Nat) (one : List Nat) : (fst' k one).length = k + one.length := by simp [fst']
theorem fst_lo {k s : Nat} {one : List Nat} (h : s < k) : (fst' k one).getD s 0 = s := by
  unfold fst'
  rw [getD_app2, if_pos (by simpa using h)]
  simp [List.getD, h]
theorem fst_hi {k t : Nat} {one : List Nat} : (fst' k one).getD (k + t) 0 = one.getD t 0 := by
  unfold fst'
  rw [getD_app2, if_neg (by simp)]
  simp
theorem mem_fst {k x : Nat} {one : List Nat} : x ∈ fst' k one ↔ x < k ∨ x ∈ one := by simp [fst']
theorem Prt.fst_lt (h : Prt n k one other) : ∀ x ∈ fst' k one, x < n := fun x hx => by
  rcases mem_fst.mp hx with q | q
  · have := h.len; omega
  · exact h.lt x (by simp [q])
theorem Prt.fst_nd (h : Prt n k one other) : (fst' k one).Nodup := by
  unfold fst'
  rw [List.nodup_append]
  refine ⟨List.nodup_range, (List.nodup_append.mp h.nd).1, fun a ha b hb z => ?_⟩
  subst z
  have := h.ge a (by simp [hb])
  rw [List.mem_range] at ha
  omega
theorem Prt.dis (h : Prt n k one other) {x : Nat} (h1 : x ∈ fst' k one) (h2 : x ∈ fst' k other) : x < k := by
  rcases mem_fst.mp h1 with q | q
  · exact q
  · rcases mem_fst.mp h2 with z | z
    · exact z
    · exact absurd rfl ((List.nodup_append.mp h.nd).2.2 x q x z)
theorem Prt.shr (h : Prt n k one other) (hD : Dst n T) (h8 : n ≤ 8) : Shr (k + one.length) (k + other.length) k (mv T (fst' k one)) (mv T (fst' k other)) := by
  have dA := mv_dst hD h.fst_nd h.fst_lt
  have dO := mv_dst hD h.swap.fst_nd h.swap.fst_lt
  rw [fst_len] at dA dO
  have := h.len
  refine ⟨dA, dO, h.k1, by omega, by omega, by omega, fun i j hi hj => ?_⟩
  rw [mv_at (by rw [fst_len]; omega) (by rw [fst_len]; omega), mv_at (by rw [fst_len]; omega) (by rw [fst_len]; omega), fst_lo hi, fst_lo hj, fst_lo hi, fst_lo hj]
theorem names_get (h : Prt n k one other) {i : Nat} (hi : i < n) : ((fst' k one) ++ other).getD i 0 < n := gD_lt (fun x hx => by
  rcases List.mem_append.mp hx with q | q
  · exact h.fst_lt x q
  · exact h.lt x (by simp [q])) (by rw [List.length_append, fst_len]; have := h.len; omega)
def wS (T : List (List Int)) (k x y : Nat) : Int := mnR ((List.range k).map fun s => at2 T x s + at2 T s y)
def WV (T : List (List Int)) (k : Nat) (F S : List Nat) (x y : Nat) : Int := if (x ∈ F ∧ y ∈ F) ∨ (x ∈ S ∧ y ∈ S) then at2 T x y else wS T k x y
theorem wS_at (h1 : 1 ≤ k) (x y : Nat) : ∃ s, s < k ∧ wS T k x y = at2 T x s + at2 T s y := by
  have h2 : wS T k x y ∈ (List.range k).map fun s => at2 T x s + at2 T s y := mnR_mem (by intro z; rw [List.map_eq_nil_iff, List.range_eq_nil] at z; omega)
  obtain ⟨s, hs, e⟩ := List.mem_map.mp h2
  exact ⟨s, by simpa using hs, e.symm⟩
theorem wS_le {x y s : Nat} (hs : s < k) : wS T k x y ≤ at2 T x s + at2 T s y := mnR_le (List.mem_map.mpr ⟨s, by simp [hs], rfl⟩)
theorem wS_ge (hD : Dst n T) (h1 : 1 ≤ k) (kn : k ≤ n) {x y : Nat} (hx : x < n) (hy : y < n) : at2 T x y ≤ wS T k x y := by
  obtain ⟨s, hs, e⟩ := wS_at (T := T) h1 x y
  have := hD.tr s x y (by omega) hx hy
  omega
theorem wS_low (hD : Dst n T) (kn : k ≤ n) {x y : Nat} (hx : x < k) (hy : y < n) : wS T k x y = at2 T x y := by
  have h1 := wS_ge hD (show 1 ≤ k by omega) kn (show x < n by omega) hy
  have h2 := wS_le (T := T) (k := k) (x := x) (y := y) hx
  rw [hD.tab.dg x (by omega)] at h2
  omega
theorem wS_sym (hD : Dst n T) (kn : k ≤ n) {x y : Nat} (hx : x < n) (hy : y < n) : wS T k x y = wS T k y x := by
  unfold wS
  congr 1
  refine List.map_congr_left fun s hs => ?_
  rw [List.mem_range] at hs
  rw [hD.tab.sy x s hx (by omega), hD.tab.sy s y (by omega) hy]
  omega
theorem WV_swap (F S : List Nat) (x y : Nat) : WV T k F S x y = WV T k S F x y := by
  unfold WV
  simp only [or_comm]
theorem step_part (h : Prt n k one other) {i t : Nat} (hi : i < k + one.length) (ht : t < other.length) : stepV (mv T (fst' k one)) (mv T (fst' k other)) k i (k + t) = wS T k ((fst' k one).getD i 0) (other.getD t 0) := by
  unfold stepV wS
  congr 1
  refine List.map_congr_left fun s hs => ?_
  rw [List.mem_range] at hs
  rw [mv_at (by rw [fst_len]; omega) (by rw [fst_len]; omega), mv_at (by rw [fst_len]; omega) (by rw [fst_len]; omega), fst_lo hs, fst_lo hs, fst_hi]
theorem WV_glu (h : Prt n k one other) (hD : Dst n T) {i j : Nat} (hi : i < n) (hj : j < n) :
    at2 (gluT (stepV (mv T (fst' k one)) (mv T (fst' k other)) k) k (k + one.length) (k + other.length) (mv T (fst' k one)) (mv T (fst' k other))) i j = WV T k (fst' k one) (fst' k other) ((fst' k one ++ other).getD i 0) ((fst' k one ++ other).getD j 0) := by
  have hl := h.len
  have sA : Sq (k + one.length) (mv T (fst' k one)) := by
    have := mv_sq T (fst' k one)
    rwa [fst_len] at this
  have kn : k ≤ n := by omega
  have c : ∀ i, i < n → i < k + one.length ∨ ∃ t, t < other.length ∧ i = k + one.length + t := fun i hi => by
    rcases Nat.lt_or_ge i (k + one.length) with q | q
    · exact .inl q
    · exact .inr ⟨i - (k + one.length), by omega, by omega⟩
  have nl : ∀ i, i < k + one.length → (fst' k one ++ other).getD i 0 = (fst' k one).getD i 0 := fun i hi => by rw [getD_app2, if_pos (by rw [fst_len]; exact hi)]
  have nh : ∀ t, (fst' k one ++ other).getD (k + one.length + t) 0 = other.getD t 0 := fun t => by rw [getD_app2, if_neg (by rw [fst_len]; omega), fst_len, show k + one.length + t - (k + one.length) = t by omega]
  have fm : ∀ i, i < k + one.length → (fst' k one).getD i 0 ∈ fst' k one := fun i hi => gD_mem (by rw [fst_len]; exact hi)
  have om : ∀ t, t < other.length → other.getD t 0 ∈ other := fun t ht => gD_mem ht
  have os : ∀ t, t < other.length → other.getD t 0 ∈ fst' k other := fun t ht => mem_fst.mpr (.inr (om t ht))
  have onf : ∀ t, t < other.length → ¬ other.getD t 0 ∈ fst' k one := fun t ht z => by
    have h1 := h.dis z (os t ht)
    have h2 := h.ge _ (List.mem_append_right one (om t ht))
    omega
  have key : ∀ i t, i < k + one.length → t < other.length → wS T k ((fst' k one).getD i 0) (other.getD t 0) = WV T k (fst' k one) (fst' k other) ((fst' k one).getD i 0) (other.getD t 0) := fun i t hi ht => by
    unfold WV
    split
    · rename_i z
      rcases z with z | z
      · exact absurd z.2 (onf t ht)
      · exact wS_low hD kn (h.dis (fm i hi) z.1) (h.lt _ (List.mem_append_right one (om t ht)))
    · rfl
  have symW : ∀ i t, i < k + one.length → t < other.length → WV T k (fst' k one) (fst' k other) ((fst' k one).getD i 0) (other.getD t 0) = WV T k (fst' k one) (fst' k other) (other.getD t 0) ((fst' k one).getD i 0) := fun i t hi ht => by
    have hx := h.fst_lt _ (fm i hi)
    have hy := h.lt _ (List.mem_append_right one (om t ht))
    unfold WV
    by_cases z : ((fst' k one).getD i 0 ∈ fst' k one ∧ other.getD t 0 ∈ fst' k one) ∨ ((fst' k one).getD i 0 ∈ fst' k other ∧ other.getD t 0 ∈ fst' k other)
    · rw [if_pos z, if_pos (by
        rcases z with z | z
        · exact .inl ⟨z.2, z.1⟩
        · exact .inr ⟨z.2, z.1⟩)]
      exact hD.tab.sy _ _ hx hy
    · rw [if_neg z, if_neg (by
        rintro (y | y)
        · exact z (.inl ⟨y.2, y.1⟩)
        · exact z (.inr ⟨y.2, y.1⟩))]
      exact wS_sym hD kn hx hy
  rcases c i hi with p | ⟨t, ht, rfl⟩ <;> rcases c j hj with q | ⟨s, hs, rfl⟩
  · rw [glu_ll sA p q, nl i p, nl j q, mv_at (by rw [fst_len]; exact p) (by rw [fst_len]; exact q)]
    unfold WV
    rw [if_pos (.inl ⟨fm i p, fm j q⟩)]
  · rw [glu_lh sA p (by omega), nl i p, nh s, step_part h p hs]
    exact key i s p hs
  · rw [glu_hl (by omega) q, nh t, nl j q, step_part h q ht, key j t q ht, symW j t q ht]
  · rw [glu_hh (by omega), nh t, nh s, mv_at (by rw [fst_len]; omega) (by rw [fst_len]; omega), fst_hi, fst_hi]
    unfold WV
    rw [if_pos (.inr ⟨os t ht, os s hs⟩)]
def wG (T : List (List Int)) (k x y : Nat) : Int := mxR ((List.range k).map fun s => ab (at2 T x s - at2 T s y))
def GV (T : List (List Int)) (k : Nat) (F S : List Nat) (x y : Nat) : Int := if (x ∈ F ∧ y ∈ F) ∨ (x ∈ S ∧ y ∈ S) then at2 T x y else wG T k x y
theorem wG_at (h1 : 1 ≤ k) (x y : Nat) : ∃ s, s < k ∧ wG T k x y = ab (at2 T x s - at2 T s y) := by
  have h2 : wG T k x y ∈ (List.range k).map fun s => ab (at2 T x s - at2 T s y) := mxR_mem (by intro z; rw [List.map_eq_nil_iff, List.range_eq_nil] at z; omega)
  obtain ⟨s, hs, e⟩ := List.mem_map.mp h2
  exact ⟨s, by simpa using hs, e.symm⟩
theorem wG_ge {x y s : Nat} (hs : s < k) : ab (at2 T x s - at2 T s y) ≤ wG T k x y := mxR_ge (List.mem_map.mpr ⟨s, by simp [hs], rfl⟩)
theorem wG_le (hD : Dst n T) (h1 : 1 ≤ k) (kn : k ≤ n) {x y : Nat} (hx : x < n) (hy : y < n) : wG T k x y ≤ at2 T x y := by
  obtain ⟨s, hs, e⟩ := wG_at (T := T) h1 x y
  rw [e, ab_le]
  have a1 := hD.tr y x s hy hx (by omega)
  have a2 := hD.tab.sy s y (by omega) hy
  have a3 := hD.tr x s y hx (by omega) hy
  have a4 := hD.tab.sy s x (by omega) hx
  omega
theorem wG_low (hD : Dst n T) (kn : k ≤ n) {x y : Nat} (hx : x < k) (hy : y < n) : wG T k x y = at2 T x y := by
  have h1 := wG_le hD (show 1 ≤ k by omega) kn (show x < n by omega) hy
  have h2 := wG_ge (T := T) (k := k) (x := x) (y := y) hx
  rw [hD.tab.dg x (by omega)] at h2
  have h3 := (hD.tab.rg x y (by omega) hy).1
  have h5 : at2 T x y ≤ ab (0 - at2 T x y) := by unfold ab; split <;> omega
  omega
theorem wG_sym (hD : Dst n T) (kn : k ≤ n) {x y : Nat} (hx : x < n) (hy : y < n) : wG T k x y = wG T k y x := by
  unfold wG
  congr 1
  refine List.map_congr_left fun s hs => ?_
  rw [List.mem_range] at hs
  rw [hD.tab.sy x s hx (by omega), hD.tab.sy s y (by omega) hy]
  exact ab_sym _ _
theorem GV_swap (F S : List Nat) (x y : Nat) : GV T k F S x y = GV T k S F x y := by
  unfold GV
  simp only [or_comm]
theorem gap_part (h : Prt n k one other) {i t : Nat} (hi : i < k + one.length) (ht : t < other.length) : gapV (mv T (fst' k one)) (mv T (fst' k other)) k i (k + t) = wG T k ((fst' k one).getD i 0) (other.getD t 0) := by
  unfold gapV wG
  congr 1
  refine List.map_congr_left fun s hs => ?_
  rw [List.mem_range] at hs
  rw [mv_at (by rw [fst_len]; omega) (by rw [fst_len]; omega), mv_at (by rw [fst_len]; omega) (by rw [fst_len]; omega), fst_lo hs, fst_lo hs, fst_hi]
theorem GV_glu (h : Prt n k one other) (hD : Dst n T) {i j : Nat} (hi : i < n) (hj : j < n) :
    at2 (gluT (gapV (mv T (fst' k one)) (mv T (fst' k other)) k) k (k + one.length) (k + other.length) (mv T (fst' k one)) (mv T (fst' k other))) i j = GV T k (fst' k one) (fst' k other) ((fst' k one ++ other).getD i 0) ((fst' k one ++ other).getD j 0) := by
  have hl := h.len
  have sA : Sq (k + one.length) (mv T (fst' k one)) := by
    have := mv_sq T (fst' k one)
    rwa [fst_len] at this
  have kn : k ≤ n := by omega
  have c : ∀ i, i < n → i < k + one.length ∨ ∃ t, t < other.length ∧ i = k + one.length + t := fun i hi => by
    rcases Nat.lt_or_ge i (k + one.length) with q | q
    · exact .inl q
    · exact .inr ⟨i - (k + one.length), by omega, by omega⟩
  have nl : ∀ i, i < k + one.length → (fst' k one ++ other).getD i 0 = (fst' k one).getD i 0 := fun i hi => by rw [getD_app2, if_pos (by rw [fst_len]; exact hi)]
  have nh : ∀ t, (fst' k one ++ other).getD (k + one.length + t) 0 = other.getD t 0 := fun t => by rw [getD_app2, if_neg (by rw [fst_len]; omega), fst_len, show k + one.length + t - (k + one.length) = t by omega]
  have fm : ∀ i, i < k + one.length → (fst' k one).getD i 0 ∈ fst' k one := fun i hi => gD_mem (by rw [fst_len]; exact hi)
  have om : ∀ t, t < other.length → other.getD t 0 ∈ other := fun t ht => gD_mem ht
  have os : ∀ t, t < other.length → other.getD t 0 ∈ fst' k other := fun t ht => mem_fst.mpr (.inr (om t ht))
  have onf : ∀ t, t < other.length → ¬ other.getD t 0 ∈ fst' k one := fun t ht z => by
    have h1 := h.dis z (os t ht)
    have h2 := h.ge _ (List.mem_append_right one (om t ht))
    omega
  have key : ∀ i t, i < k + one.length → t < other.length → wG T k ((fst' k one).getD i 0) (other.getD t 0) = GV T k (fst' k one) (fst' k other) ((fst' k one).getD i 0) (other.getD t 0) := fun i t hi ht => by
    unfold GV
    split
    · rename_i z
      rcases z with z | z
      · exact absurd z.2 (onf t ht)
      · exact wG_low hD kn (h.dis (fm i hi) z.1) (h.lt _ (List.mem_append_right one (om t ht)))
    · rfl
  have symW : ∀ i t, i < k + one.length → t < other.length → GV T k (fst' k one) (fst' k other) ((fst' k one).getD i 0) (other.getD t 0) = GV T k (fst' k one) (fst' k other) (other.getD t 0) ((fst' k one).getD i 0) := fun i t hi ht => by
    have hx := h.fst_lt _ (fm i hi)
    have hy := h.lt _ (List.mem_append_right one (om t ht))
    unfold GV
    by_cases z : ((fst' k one).getD i 0 ∈ fst' k one ∧ other.getD t 0 ∈ fst' k one) ∨ ((fst' k one).getD i 0 ∈ fst' k other ∧ other.getD t 0 ∈ fst' k other)
    · rw [if_pos z, if_pos (by
        rcases z with z | z
        · exact .inl ⟨z.2, z.1⟩
        · exact .inr ⟨z.2, z.1⟩)]
      exact hD.tab.sy _ _ hx hy
    · rw [if_neg z, if_neg (by
        rintro (y | y)
        · exact z (.inl ⟨y.2, y.1⟩)
        · exact z (.inr ⟨y.2, y.1⟩))]
      exact wG_sym hD kn hx hy
  rcases c i hi with p | ⟨t, ht, rfl⟩ <;> rcases c j hj with q | ⟨s, hs, rfl⟩
  · rw [glu_ll sA p q, nl i p, nl j q, mv_at (by rw [fst_len]; exact p) (by rw [fst_len]; exact q)]
    unfold GV
    rw [if_pos (.inl ⟨fm i p, fm j q⟩)]
  · rw [glu_lh sA p (by omega), nl i p, nh s, gap_part h p hs]
    exact key i s p hs
  · rw [glu_hl (by omega) q, nh t, nl j q, gap_part h q ht, key j t q ht, symW j t q ht]
  · rw [glu_hh (by omega), nh t, nh s, mv_at (by rw [fst_len]; omega) (by rw [fst_len]; omega), fst_hi, fst_hi]
    unfold GV
    rw [if_pos (.inr ⟨os t ht, os s hs⟩)]
end
end Fx
end

section
set_option linter.all false
set_option maxRecDepth 10000
namespace Fx
/-! points taken away and given back -/
def rowK (T : List (List Int)) (k x : Nat) : List Int := (List.range k).map fun y => at2 T x y
theorem rowK_at {T : List (List Int)} {k x i : Nat} (h : i < k) : (rowK T k x).getD i 0 = at2 T x i := getD_mapR _ _ _ _ h
theorem rowK_len (T : List (List Int)) (k x : Nat) : (rowK T k x).length = k := by simp [rowK]
theorem mvr_at {T : List (List Int)} {k i j : Nat} (hi : i < k) (hj : j < k) : at2 (mv T (List.range k)) i j = at2 T i j := by
  rw [mv_at (by simpa using hi) (by simpa using hj)]
  have e : ∀ i, i < k → (List.range k).getD i 0 = i := fun i hi => by simp [List.getD, hi]
  rw [e i hi, e j hj]
section
variable {n k : Nat} {T : List (List Int)}
theorem mvr_dst (hD : Dst n T) (hk : k ≤ n) : Dst k (mv T (List.range k)) := by
  have := mv_dst (o := List.range k) hD List.nodup_range (fun x hx => by rw [List.mem_range] at hx; omega)
  rwa [List.length_range] at this
theorem rowK_fit (hD : Dst n T) {x : Nat} (hk : k ≤ x) (hx : x < n) : Fit k (mv T (List.range k)) (rowK T k x) := by
  refine ⟨rowK_len T k x, fun i hi => ?_, fun i j hi hj => ?_, fun i j hi hj => ?_⟩
  · rw [rowK_at hi]
    exact ⟨hD.ps x i hx (by omega) (by omega), (hD.tab.rg x i hx (by omega)).2⟩
  · rw [mvr_at hi hj, rowK_at hi, rowK_at hj]
    have := hD.tr x i j hx (by omega) (by omega)
    rw [hD.tab.sy i x (by omega) hx] at this
    exact this
  · rw [mvr_at hi hj, rowK_at hi, rowK_at hj]
    have := hD.tr j x i (by omega) hx (by omega)
    rw [hD.tab.sy j i (by omega) (by omega)] at this
    omega
theorem back_wide (hD : Dst (k + 1) T) : wide k (mv T (List.range k)) (rowK T k k) = T := by
  have sM := (mvr_dst hD (show k ≤ k + 1 by omega)).tab.sq
  have lr := rowK_len T k k
  have c : ∀ i, i < k + 1 → i < k ∨ i = k := fun i hi => by omega
  refine sq_ext (n := k + 1) (wide_sq sM lr) hD.tab.sq fun i hi j hj => ?_
  rcases c i hi with p | rfl <;> rcases c j hj with q | q
  · rw [wide_at sM lr p q, mvr_at p q]
  · subst q; rw [wide_in sM lr p, rowK_at p]; exact hD.tab.sy _ _ (by omega) (by omega)
  · rw [wide_ni lr q, rowK_at q]
  · subst q; rw [wide_nn lr, hD.tab.dg _ (by omega)]
theorem row_take (hD : Dst (k + 1) T) : (T.getD k []).take k = rowK T k k := by
  refine ext_getD (n := k) (by rw [List.length_take, hD.tab.sq.row k (by omega)]; omega) (rowK_len T k k) fun i hi => ?_
  rw [rowK_at hi]
  unfold at2 List.getD
  rw [List.getElem?_take, if_pos hi]
theorem glu_self (f : Nat → Nat → Int) (h : T.length = n) : gluT f n n n T T = T := by
  unfold gluT
  rw [Nat.sub_self]
  simp only [List.range_zero, List.map_nil, List.append_nil]
  refine List.ext_getElem? fun i => ?_
  rw [List.getElem?_map]
  rcases Nat.lt_or_ge i n with q | q
  · rw [get_of (show i < T.length by omega) []]
    simp [q]
  · rw [List.getElem?_eq_none (show T.length ≤ i by omega), List.getElem?_eq_none (show (List.range n).length ≤ i by simp; omega)]
    rfl
theorem shr_self (hD : Dst n T) (h1 : 1 ≤ n) (h8 : n ≤ 8) : Shr n n n T T := ⟨hD, hD, h1, Nat.le_refl n, Nat.le_refl n, by omega, fun _ _ _ _ => rfl⟩
/-- the table that grows, point by point -/
def grG (T : List (List Int)) (k i j : Nat) : Int := if i < k ∨ j < k then at2 T i j else if i = j then 0 else wS T k i j
def grT (T : List (List Int)) (k t : Nat) : List (List Int) := fnT (k + t) (grG T k)
def wdT (T : List (List Int)) (k x : Nat) : List (List Int) := wide k (mv T (List.range k)) (rowK T k x)
theorem wdT_dst (hD : Dst n T) {x : Nat} (hk : k ≤ x) (hx : x < n) : Dst (k + 1) (wdT T k x) := wide_dst (mvr_dst hD (by omega)) (rowK_fit hD hk hx)
theorem wdT_lo (hD : Dst n T) (hk : k ≤ n) {x i j : Nat} (hi : i < k) (hj : j < k) : at2 (wdT T k x) i j = at2 T i j := by
  unfold wdT
  rw [wide_at (mvr_dst hD hk).tab.sq (rowK_len T k x) hi hj, mvr_at hi hj]
theorem wdT_in (hD : Dst n T) (hk : k ≤ n) {x i : Nat} (hi : i < k) : at2 (wdT T k x) i k = at2 T x i := by
  unfold wdT
  rw [wide_in (mvr_dst hD hk).tab.sq (rowK_len T k x) hi, rowK_at hi]
theorem wdT_ni {x j : Nat} (hj : j < k) : at2 (wdT T k x) k j = at2 T x j := by
  unfold wdT
  rw [wide_ni (rowK_len T k x) hj, rowK_at hj]
theorem wdT_nn {x : Nat} : at2 (wdT T k x) k k = 0 := wide_nn (rowK_len T k x)
theorem grT_one (hD : Dst n T) (hk : k < n) : wdT T k k = grT T k 1 := by
  have c : ∀ i, i < k + 1 → i < k ∨ i = k := fun i hi => by omega
  refine sq_ext (n := k + 1) (wdT_dst hD (Nat.le_refl k) hk).tab.sq (fnT_sq _ _) fun i hi j hj => ?_
  unfold grT
  rw [fnT_at _ hi hj]
  unfold grG
  rcases c i hi with p | rfl <;> rcases c j hj with q | q
  · rw [wdT_lo hD (by omega) p q, if_pos (.inl p)]
  · subst q; rw [wdT_in hD (by omega) p, if_pos (.inl p)]; exact hD.tab.sy _ _ (by omega) (by omega)
  · rw [wdT_ni q, if_pos (.inr q)]
  · subst q; rw [wdT_nn, if_neg (by omega), if_pos rfl]
theorem gr_step (hD : Dst n T) (h1 : 1 ≤ k) {t i : Nat} (ht : k + t < n) (hi : i < k + t) : stepV (grT T k t) (wdT T k (k + t)) k i k = wS T k i (k + t) := by
  unfold stepV wS
  congr 1
  refine List.map_congr_left fun s hs => ?_
  rw [List.mem_range] at hs
  unfold grT
  rw [fnT_at _ hi (by omega), wdT_in hD (by omega) hs]
  unfold grG
  rw [if_pos (.inr hs), hD.tab.sy (k + t) s (by omega) (by omega)]
theorem gr_glu (hD : Dst n T) (h1 : 1 ≤ k) {t : Nat} (ht : k + t < n) : gluT (stepV (grT T k t) (wdT T k (k + t)) k) k (k + t) (k + 1) (grT T k t) (wdT T k (k + t)) = grT T k (t + 1) := by
  have sG : Sq (k + t) (grT T k t) := fnT_sq _ _
  have c : ∀ i, i < k + t + 1 → i < k + t ∨ i = k + t + 0 := fun i hi => by omega
  have sW := (wdT_dst hD (show k ≤ k + t by omega) ht).tab.sq
  have sq := glu_sq (f := stepV (grT T k t) (wdT T k (k + t)) k) (k := k) sG sW (by omega)
  rw [show k + t + (k + 1) - k = k + t + 1 by omega] at sq
  refine sq_ext (n := k + t + 1) sq (fnT_sq _ _) fun i hi j hj => ?_
  unfold grT at *
  rw [show k + (t + 1) = k + t + 1 from rfl, fnT_at _ hi hj]
  have sc : ∀ i, i < k + t → wS T k i (k + t) = grG T k i (k + t) := fun i hi => by
    unfold grG
    by_cases q : i < k
    · rw [if_pos (.inl q)]
      exact wS_low hD (by omega) q ht
    · rw [if_neg (by omega), if_neg (by omega)]
  have sy : ∀ i, i < k + t → grG T k i (k + t) = grG T k (k + t) i := fun i hi => by
    unfold grG
    by_cases q : i < k
    · rw [if_pos (.inl q), if_pos (.inr q)]
      exact hD.tab.sy _ _ (by omega) ht
    · rw [if_neg (by omega), if_neg (by omega), if_neg (by omega), if_neg (by omega)]
      exact wS_sym hD (by omega) (by omega) ht
  rcases c i hi with p | rfl <;> rcases c j hj with q | q
  · rw [glu_ll sG p q, fnT_at _ p q]
  · subst q
    rw [glu_lh sG p (by omega)]
    exact (gr_step hD h1 ht p).trans (sc i p)
  · rw [glu_hl (by omega) q]
    exact ((gr_step hD h1 ht q).trans (sc j q)).trans (sy j q)
  · subst q
    rw [glu_hh (by omega)]
    show at2 (wdT T k (k + t)) k k = _
    rw [wdT_nn]
    unfold grG
    rw [if_neg (by omega), if_pos rfl]
theorem gr_bd (hD : Dst n T) (bT : ∀ i j, i < n → j < n → at2 T i j ≤ 100) (h1 : 1 ≤ k) {t : Nat} (ht : k + t ≤ n) : ∀ i j, i < k + t → j < k + t → at2 (grT T k t) i j ≤ 200 := fun i j hi hj => by
  unfold grT
  rw [fnT_at _ hi hj]
  unfold grG
  split
  · have := bT i j (by omega) (by omega)
    omega
  · split
    · omega
    · obtain ⟨s, hs, e⟩ := wS_at (T := T) h1 i j
      have := bT i s (by omega) (by omega)
      have := bT s j (by omega) (by omega)
      omega
theorem wd_bd (hD : Dst n T) (bT : ∀ i j, i < n → j < n → at2 T i j ≤ 100) {x : Nat} (hk : k ≤ n) (hx : x < n) : ∀ i j, i < k + 1 → j < k + 1 → at2 (wdT T k x) i j ≤ 100 := fun i j hi hj => by
  have c : ∀ i, i < k + 1 → i < k ∨ i = k := fun i hi => by omega
  rcases c i hi with p | rfl <;> rcases c j hj with q | q
  · rw [wdT_lo hD hk p q]; exact bT _ _ (by omega) (by omega)
  · subst q; rw [wdT_in hD hk p]; exact bT _ _ hx (by omega)
  · rw [wdT_ni q]; exact bT _ _ hx (by omega)
  · subst q; rw [wdT_nn]; omega
theorem gr_shr (hD : Dst n T) (bT : ∀ i j, i < n → j < n → at2 T i j ≤ 100) (h1 : 1 ≤ k) (h8 : n ≤ 8) : ∀ t, 1 ≤ t → k + t < n → Shr (k + t) (k + 1) k (grT T k t) (wdT T k (k + t)) := by
  have dg : ∀ t, 1 ≤ t → k + t ≤ n → Dst (k + t) (grT T k t) := fun t ht => by
    induction t with
    | zero => omega
    | succ t ih =>
      intro htn
      by_cases q : t = 0
      · subst q
        rw [← grT_one hD (by omega)]
        exact wdT_dst hD (Nat.le_refl k) (by omega)
      · have dt := ih (by omega) (by omega)
        have sh : Shr (k + t) (k + 1) k (grT T k t) (wdT T k (k + t)) := ⟨dt, wdT_dst hD (by omega) (by omega), h1, by omega, by omega, by omega, fun i j hi hj => by
          rw [wdT_lo hD (by omega) hi hj]
          unfold grT
          rw [fnT_at _ (by omega) (by omega)]
          unfold grG
          rw [if_pos (.inl hi)]⟩
        have := glu_dst sh (fun i j hi hj => by have := gr_bd hD bT h1 (show k + t ≤ n by omega) i j hi hj; omega) (fun i j hi hj => by have := wd_bd hD bT (show k ≤ n by omega) (show k + t < n by omega) i j hi hj; omega)
        rw [gr_glu hD h1 (by omega), show k + t + (k + 1) - k = k + (t + 1) by omega] at this
        exact this
  intro t ht htn
  exact ⟨dg t ht (by omega), wdT_dst hD (by omega) htn, h1, by omega, by omega, by omega, fun i j hi hj => by
    rw [wdT_lo hD (by omega) hi hj]
    unfold grT
    rw [fnT_at _ (by omega) (by omega)]
    unfold grG
    rw [if_pos (.inl hi)]⟩
end
/-! comprehensions whose test changes other names -/
theorem compGoT {k : Nat} {t : M Bool} {x : M Vl} (I : En → Prop) : ∀ (l acc : List D) (e : En), I e → (∀ d ∈ l, ∀ e, I e → ∃ b e3, t (e.set k (some (.v d))) = .ok b e3 ∧ I (e3.set k none) ∧ (b = true → ∃ y, x e3 = .ok y e3 ∧ y.d = some d)) →
    ∃ r e', r.Sublist l ∧ compGo [k] (gN k) t x l acc e = .ok (acc ++ r) e' ∧ I e'
  | [], acc, e, hi, _ => ⟨[], e, .slnil, by simp [compGo], hi⟩
  | d :: l, acc, e, hi, h => by
    obtain ⟨b, e3, h1, h2, h3⟩ := h d (by simp) e hi
    cases b with
    | false =>
      obtain ⟨r, e', h4, h5, h6⟩ := compGoT I l acc _ h2 fun d hd => h d (by simp [hd])
      refine ⟨r, e', h4.cons _, ?_, h6⟩
      unfold compGo
      simp only [s_gN, h1, hide]
      exact h5
    | true =>
      obtain ⟨y, h7, h8⟩ := h3 rfl
      obtain ⟨r, e', h4, h5, h6⟩ := compGoT I l (acc ++ [d]) _ h2 fun d hd => h d (by simp [hd])
      refine ⟨d :: r, e', h4.cons₂ _, ?_, h6⟩
      unfold compGo
      simp only [s_gN, h1, h7, h8, hide]
      rw [h5]
      simp
theorem eCompT {k : Nat} {it : M (List D)} {t : M Bool} {x : M Vl} {e e1 : En} {l : List D} (I : En → Prop) (hit : it e = .ok l e1) (hl : l.length ≤ lim) (hk : e1[k]? = some none) (h0 : I e1)
    (h : ∀ d ∈ l, ∀ e, I e → ∃ b e3, t (e.set k (some (.v d))) = .ok b e3 ∧ I (e3.set k none) ∧ (b = true → ∃ y, x e3 = .ok y e3 ∧ y.d = some d)) : ∃ r e2, r.Sublist l ∧ eComp [k] it (gN k) t x e = .ok (.o r) (e2.set k none) ∧ I e2 := by
  obtain ⟨r, e2, h1, h2, h3⟩ := compGoT (k := k) (t := t) (x := x) I l [] e1 h0 h
  refine ⟨r, e2, h1, ?_, h3⟩
  unfold eComp
  simp only [hit, Rs.then, hl, if_true, hide, set_none hk, h2, unhide, hk, List.nil_append]
  rfl
/-- a comprehension whose items change other names; the name holds data before and after -/
theorem eCompJV {k : Nat} {it : M (List D)} {x : M Vl} {e e1 : En} {l : List D} {d0 : D} (I : Nat → List D → En → Prop) (hit : it e = .ok l e1) (hl : l.length ≤ lim) (hk : e1[k]? = some (some (.v d0))) (h0 : I 0 [] (e1.set k none))
    (h : ∀ j acc e d, j < l.length → I j acc e → l[j]? = some d → ∃ y z e3, x (e.set k (some (.v d))) = .ok y e3 ∧ y.d = some z ∧ I (j + 1) (acc ++ [z]) (e3.set k none)) : ∃ acc e2, eComp [k] it (gN k) tYes x e = .ok (.o acc) (e2.set k (some (.v d0))) ∧ I l.length acc e2 := by
  obtain ⟨acc, e2, h1, h2⟩ := compGoJ (k := k) (x := x) I l 0 [] (e1.set k none) h0 (fun j acc e d hi hd => by
    rw [Nat.zero_add] at hi ⊢
    refine h j acc e d ?_ hi hd
    rcases Nat.lt_or_ge j l.length with q | q
    · exact q
    · rw [List.getElem?_eq_none q] at hd; cases hd)
  refine ⟨acc, e2, ?_, by simpa using h2⟩
  unfold eComp
  simp only [hit, Rs.then, hl, if_true, hide, h1, unhide, hk]
  rfl
end Fx
end

section
set_option linter.all false
set_option maxRecDepth 10000
namespace Fx
def topR (T : List (List Int)) : Int := mxR (T.map mxR)
def farR (T : List (List Int)) : Int := mnR (T.map mxR)
section
variable {n : Nat} {tp : Int} {T : List (List Int)}
theorem top_ge (h : TabI n tp T) {i : Nat} (hi : i < n) : ecc T i ≤ topR T := mxR_ge (ecc_mem h hi)
theorem top_at (h : TabI n tp T) (h1 : 1 ≤ n) : ∃ i, i < n ∧ ecc T i = topR T := mem_ecc h (mxR_mem (ws_ne h h1))
theorem far_le (h : TabI n tp T) {i : Nat} (hi : i < n) : farR T ≤ ecc T i := mnR_le (ecc_mem h hi)
theorem far_at (h : TabI n tp T) (h1 : 1 ≤ n) : ∃ i, i < n ∧ ecc T i = farR T := mem_ecc h (mnR_mem (ws_ne h h1))
theorem at_le_top (h : TabI n tp T) {i j : Nat} (hi : i < n) (hj : j < n) : at2 T i j ≤ topR T := Int.le_trans (ecc_ge h hi hj) (top_ge h hi)
theorem far_top (h : TabI n tp T) (h1 : 1 ≤ n) : farR T ≤ topR T := by
  obtain ⟨i, hi, e⟩ := far_at h h1
  rw [← e]; exact top_ge h hi
theorem top_far (h : Dst n T) (h1 : 1 ≤ n) : topR T ≤ 2 * farR T := by
  obtain ⟨c, hc, ec⟩ := far_at h.tab h1
  obtain ⟨u, hu, eu⟩ := top_at h.tab h1
  obtain ⟨v, hv, ev⟩ := ecc_at h.tab hu
  have h2 := h.tr c u v hc hu hv
  have h3 := ecc_ge h.tab hc hu
  have h4 := ecc_ge h.tab hc hv
  have h5 := h.tab.sy u c hu hc
  omega
theorem ecc_near (h : Dst n T) {i j : Nat} (hi : i < n) (hj : j < n) : ecc T i - ecc T j ≤ at2 T i j := by
  obtain ⟨v, hv, ev⟩ := ecc_at h.tab hi
  have h2 := h.tr j i v hj hi hv
  have h3 := ecc_ge h.tab hj hv
  omega
/-- in levels all are as far -/
theorem ecc_level (h : TabI n tp T) (ht : ∀ m i j, m < n → i < n → j < n → at2 T i j ≤ max (at2 T i m) (at2 T m j)) {i j : Nat} (hi : i < n) (hj : j < n) : ecc T i ≤ ecc T j := by
  obtain ⟨v, hv, ev⟩ := ecc_at h hi
  have h2 := ht j i v hj hi hv
  have h3 := ecc_ge h hj hv
  have h4 := ecc_ge h hj hi
  have h5 := h.sy i j hi hj
  omega
theorem pos_ge (h : TabI n tp T) (h1 : 1 ≤ n) : 0 ≤ topR T := by
  have h2 := at_le_top h (show 0 < n by omega) (show 0 < n by omega)
  have h3 := h.dg 0 (by omega)
  omega
end
end Fx
end

section
set_option linter.all false
set_option maxRecDepth 10000
namespace Fx
def nD (k : Nat) : D := .int (k : Int)
theorem li_eq (o : List Nat) : li o = .lst (o.map nD) := rfl
theorem rng_nD (k w : Nat) : rng (k : Int) w = (List.range' k w).map nD := rng_rangek k w
theorem rng0_nD (w : Nat) : rng 0 w = (List.range w).map nD := by
  rw [List.range_eq_range', ← rng_nD]
  rfl
theorem rgOk_nat {a b : Nat} (ha : a ≤ 1000) (hb : b ≤ 1000) : rgOk (a : Int) (b : Int) = true := by
  have s1 : smallI (a : Int) = true := small_nat (by omega)
  have s2 : smallI (b : Int) = true := small_nat (by omega)
  unfold rgOk
  rw [s1, s2]
  simp [lim]
  omega
theorem rgOk_nat0 {b : Nat} (hb : b ≤ 1000) : rgOk 0 (b : Int) = true := rgOk_nat (a := 0) (by omega) hb
theorem notin_o (t : Nat) (row : List Nat) : oNotIn (.v (.int (t : Int))) (.v (.lst (row.map nD))) = some (.v (.bl (!row.contains t))) := by
  have := in_oi t row
  unfold oNotIn
  simp [D.dep]
  show inD _ (row.map fun (k : Nat) => D.int (k : Int)) = _
  rw [this]
  simp
theorem in_l (t : Nat) (row : List Nat) : oIn (.v (.int (t : Int))) (.v (.lst (row.map nD))) = some (.v (.bl (row.contains t))) := by
  have := in_oi t row
  unfold oIn
  simp [D.dep]
  show inD _ (row.map fun (k : Nat) => D.int (k : Int)) = _
  rw [this]
  simp
theorem ix_nD (l : List Nat) {i : Nat} (h : i < l.length) : oIx (.o (l.map nD)) (.v (.int (i : Int))) = some (.v (.int ((l.getD i 0 : Nat) : Int))) := by
  unfold oIx
  simp only [o_items]
  rw [atD_nat, List.getElem?_map, get_of h 0]
  rfl
theorem ix_nDv (l : List Nat) {i : Nat} (h : i < l.length) : oIx (.v (.lst (l.map nD))) (.v (.int (i : Int))) = some (.v (.int ((l.getD i 0 : Nat) : Int))) := by
  rw [ix_v _ (l.map nD) _ rfl, atD_nat, List.getElem?_map, get_of h 0]
  rfl
theorem ix_tt2 {m : Nat} {A : List (List Int)} (h : Sq m A) {i j : Nat} (hi : i < m) (hj : j < m) : ∃ r, A[i]? = some r ∧ r[j]? = some (at2 A i j) := by
  refine ⟨A.getD i [], get_of (by rw [h.len]; exact hi) [], ?_⟩
  rw [get_of (by rw [h.row i hi]; exact hj) 0]
  rfl
theorem fIx_nD : ∀ (o : List Nat) (x : Nat), x ∈ o → ∃ b, b < o.length ∧ fIx (o.map nD) (.int (x : Int)) = some (.int (b : Int)) ∧ o.getD b 0 = x
  | [], x, h => by simp at h
  | a :: o, x, h => by
    by_cases q : a = x
    · subst q
      refine ⟨0, by simp, ?_, rfl⟩
      unfold fIx
      simp [nD, D.eq, List.findIdx?_cons]
    · have hx : x ∈ o := by simpa [Ne.symm q] using h
      obtain ⟨b, h1, h2, h3⟩ := fIx_nD o x hx
      refine ⟨b + 1, by simp; omega, ?_, by simpa using h3⟩
      unfold fIx at h2 ⊢
      have hne : D.eq (nD a) (.int (x : Int)) = false := by
        simp [nD, D.eq]
        omega
      rw [List.map_cons, List.findIdx?_cons, hne]
      cases hf : (o.map nD).findIdx? (fun z => D.eq z (.int (x : Int))) with
      | none => rw [hf] at h2; cases h2
      | some c =>
        rw [hf] at h2
        simp at h2
        simp [h2]
theorem forGoH {g : D → En → Option En} {b : C} (h : Nat → D) (I : Nat → En → Prop) (n : Nat) : ∀ (m k : Nat) (e : En), k + m = n → I k e → (∀ j e, j < n → I j e → ∃ e1 e2, g (h j) e = some e1 ∧ b e1 = .nxt e2 ∧ I (j + 1) e2) → ∃ e', forGo g b ((List.range' k m).map h) e = .nxt e' ∧ I n e'
  | 0, k, e, hk, hi, _ => ⟨e, rfl, by rw [← hk]; exact hi⟩
  | m + 1, k, e, hk, hi, hh => by
    obtain ⟨e1, e2, h1, h2, h3⟩ := hh k e (by omega) hi
    obtain ⟨e', h4, h5⟩ := forGoH h I n m (k + 1) e2 (by omega) h3 hh
    refine ⟨e', ?_, h5⟩
    rw [List.range'_succ, List.map_cons]
    conv => lhs; unfold forGo
    simp only [h1, h2]
    exact h4
/-- what is left of the rest -/
def oth (n k : Nat) (one : List Nat) : List Nat := (List.range' k (n - k)).filter fun x => !one.contains x
theorem oth_prt {n k : Nat} {one : List Nat} (k1 : 1 ≤ k) (kn : k ≤ n) (h : one.Sublist (List.range' k (n - k))) : Prt n k one (oth n k one) := by
  have nd : (List.range' k (n - k)).Nodup := List.nodup_range'
  have nd1 := nd.sublist h
  have mo : ∀ x, x ∈ oth n k one ↔ x ∈ List.range' k (n - k) ∧ ¬ x ∈ one := fun x => by
    unfold oth
    rw [List.mem_filter]
    simp
  have mr : ∀ x, x ∈ List.range' k (n - k) ↔ k ≤ x ∧ x < n := fun x => by
    rw [List.mem_range'_1]
    omega
  have hm : ∀ x ∈ one ++ oth n k one, k ≤ x ∧ x < n := fun x hx => by
    rcases List.mem_append.mp hx with q | q
    · exact (mr x).mp (h.subset q)
    · exact (mr x).mp ((mo x).mp q).1
  refine ⟨k1, ?_, fun x hx => (hm x hx).1, fun x hx => (hm x hx).2, ?_⟩
  · rw [List.nodup_append]
    refine ⟨nd1, nd.sublist List.filter_sublist, fun a ha b hb z => ?_⟩
    subst z
    exact ((mo a).mp hb).2 ha
  · have p : ((List.range' k (n - k)).filter fun x => one.contains x).Perm one := by
      rw [List.perm_ext_iff_of_nodup (nd.sublist List.filter_sublist) nd1]
      intro x
      rw [List.mem_filter]
      simp
      intro hx
      have := (mr x).mp (h.subset hx)
      omega
    have e1 := p.length_eq
    have e2 : ((List.range' k (n - k)).filter fun x => one.contains x).length + (oth n k one).length = (List.range' k (n - k)).length := by
      unfold oth
      rw [← List.countP_eq_length_filter, ← List.countP_eq_length_filter]
      have := List.length_eq_countP_add_countP (fun x => one.contains x) (l := List.range' k (n - k))
      rw [this]
      congr 1
      refine List.countP_congr fun x _ => ?_
      simp
    rw [List.length_range'] at e2
    omega
theorem less_fit {n : Nat} {T : List (List Int)} (hD : Dst n T) (h2 : 2 ≤ n) : wide (n - 1) (mv T (List.range (n - 1))) ((T.getD (n - 1) []).take (n - 1)) = T ∧ Fit (n - 1) (mv T (List.range (n - 1))) ((T.getD (n - 1) []).take (n - 1)) := by
  obtain ⟨p, rfl⟩ : ∃ p, n = p + 1 := ⟨n - 1, by omega⟩
  rw [Nat.add_sub_cancel, row_take hD]
  exact ⟨back_wide hD, rowK_fit hD (Nat.le_refl p) (by omega)⟩
theorem st1 (s : Rd) (sc : D) : ∃ (n : Nat) (s' : Rd), 2 ≤ n ∧ n ≤ 6 ∧ (sSet 2 (e2 oAdd (eC (.int 2)) (eCall G.F__law_take [.lent 1, .va (eC (.int 5))]))) [some (.v sc), some (Rd.v s), none, none, none, none, none, none, none, none, none, none, none, none, none, none, none, none, none, none, none, none, none, none, none, none, none] = .nxt [some (.v sc), some (Rd.v s'), some (.v (.int (n : Int))), none, none, none, none, none, none, none, none, none, none, none, none, none, none, none, none, none, none, none, none, none, none, none, none] := by
  obtain ⟨r, s', r0, r1, h⟩ := take_spec s 5 (by omega) (by omega)
  refine ⟨(2 + r).toNat, s', by omega, by omega, ?_⟩
  have e : (((2 + r).toNat : Nat) : Int) = 2 + r := by omega
  rw [e]
  simp [h]
theorem st2 (s : Rd) (sc : D) (n : Nat) (h2 : 2 ≤ n) (h6 : n ≤ 6) : ∃ (T : List (List Int)) (s' : Rd), (Dst n T ∧ ∀ i j, i < n → j < n → at2 T i j ≤ 100) ∧ (sSet 3 (eCall G.F__law_distances [.lent 1, .va (eV 2)])) [some (.v sc), some (Rd.v s), some (.v (.int (n : Int))), none, none, none, none, none, none, none, none, none, none, none, none, none, none, none, none, none, none, none, none, none, none, none, none] = .nxt [some (.v sc), some (Rd.v s'), some (.v (.int (n : Int))), some (.v (tt T)), none, none, none, none, none, none, none, none, none, none, none, none, none, none, none, none, none, none, none, none, none, none, none] := by
  obtain ⟨T, s', hT, ht⟩ := distances_spec' s n (by omega) (by omega)
  exact ⟨T, s', hT, by simp [ht]⟩
theorem st3 (s : Rd) (sc : D) (n : Nat) (T : List (List Int)) (h2 : 2 ≤ n) (h6 : n ≤ 6) (hD : Dst n T) (bT : ∀ i j, i < n → j < n → at2 T i j ≤ 100) : (sSet 4 (eCall G.F__law_part [.va (eV 3), .va (eLr1 (e2 oSub (eV 2) (eC (.int 1))))])) [some (.v sc), some (Rd.v s), some (.v (.int (n : Int))), some (.v (tt T)), none, none, none, none, none, none, none, none, none, none, none, none, none, none, none, none, none, none, none, none, none, none, none] = .nxt [some (.v sc), some (Rd.v s), some (.v (.int (n : Int))), some (.v (tt T)), some (.v (tt (mv T (List.range (n - 1))))), none, none, none, none, none, none, none, none, none, none, none, none, none, none, none, none, none, none, none, none, none, none] := by
  have hT := hD.tab
  have jT := hT.tab (by omega) (by omega) (by omega)
  have lT := hT.sq.len
  have sT := hT.sqr
  have h := law_part_ok (o := List.range (n - 1)) hT.sq (by omega) (by simp; omega) (fun x hx => by rw [List.mem_range] at hx; omega)
  rw [li_eq, ← rng0_nD] at h
  have en : (n : Int) - 1 = ((n - 1 : Nat) : Int) := by omega
  have rg := rgOk_nat0 (b := n - 1) (by omega)
  have et : ((n - 1 : Nat) : Int).toNat = n - 1 := by omega
  generalize mv T (List.range (n - 1)) = M at *
  simp [en, rg, et, h]
theorem st4 (s : Rd) (sc : D) (n : Nat) (T : List (List Int)) (h2 : 2 ≤ n) (h6 : n ≤ 6) (hD : Dst n T) (bT : ∀ i j, i < n → j < n → at2 T i j ≤ 100) : (sSet 5 (eCut (eIxP 3 (e2 oSub (eV 2) (eC (.int 1)))) pNo (pSome (e2 oSub (eV 2) (eC (.int 1)))))) [some (.v sc), some (Rd.v s), some (.v (.int (n : Int))), some (.v (tt T)), some (.v (tt (mv T (List.range (n - 1))))), none, none, none, none, none, none, none, none, none, none, none, none, none, none, none, none, none, none, none, none, none, none] = .nxt [some (.v sc), some (Rd.v s), some (.v (.int (n : Int))), some (.v (tt T)), some (.v (tt (mv T (List.range (n - 1))))), some (.v (ti ((T.getD (n - 1) []).take (n - 1)))), none, none, none, none, none, none, none, none, none, none, none, none, none, none, none, none, none, none, none, none, none] := by
  have hT := hD.tab
  have jT := hT.tab (by omega) (by omega) (by omega)
  have lT := hT.sq.len
  have sT := hT.sqr
  have en : (n : Int) - 1 = ((n - 1 : Nat) : Int) := by omega
  have g1 : T[n - 1]? = some (T.getD (n - 1) []) := get_of (by omega) []
  have hcut : oCut (.v (ti (T.getD (n - 1) []))) none (some ((n - 1 : Nat) : Int)) = some (.v (ti ((T.getD (n - 1) []).take (n - 1)))) := by
    have := oCut_to ((T.getD (n - 1) []).map D.int) (n - 1) (by rw [List.length_map, hT.sq.row (n - 1) (by omega)]; omega)
    rw [← List.map_take] at this
    exact this
  generalize (T.getD (n - 1) []).take (n - 1) = r0 at *
  generalize T.getD (n - 1) [] = Tn at *
  generalize mv T (List.range (n - 1)) = M at *
  simp [en, g1, hcut, pNo, pSome, Vl.int]
theorem st5 (s : Rd) (sc : D) (n : Nat) (T : List (List Int)) (h2 : 2 ≤ n) (h6 : n ≤ 6) (hD : Dst n T) (bT : ∀ i j, i < n → j < n → at2 T i j ≤ 100) : (sIf (tOr (tB (e2 oNe (eCall G.F_more_paper [.va (eV 4), .va (eV 5)]) (eTup (eCons (eC (.str "fits")) eNil)))) (tB (e2 oNe (eCall G.F_with_point [.va (eV 4), .va (eV 5)]) (eV 3)))) (sRet (eC (.bl false))) sNil) [some (.v sc), some (Rd.v s), some (.v (.int (n : Int))), some (.v (tt T)), some (.v (tt (mv T (List.range (n - 1))))), some (.v (ti ((T.getD (n - 1) []).take (n - 1)))), none, none, none, none, none, none, none, none, none, none, none, none, none, none, none, none, none, none, none, none, none] = .nxt [some (.v sc), some (Rd.v s), some (.v (.int (n : Int))), some (.v (tt T)), some (.v (tt (mv T (List.range (n - 1))))), some (.v (ti ((T.getD (n - 1) []).take (n - 1)))), none, none, none, none, none, none, none, none, none, none, none, none, none, none, none, none, none, none, none, none, none] := by
  have hT := hD.tab
  have jT := hT.tab (by omega) (by omega) (by omega)
  have lT := hT.sq.len
  have sT := hT.sqr
  obtain ⟨hw, hf⟩ := less_fit hD h2
  have dl := mvr_dst hD (show n - 1 ≤ n by omega)
  have jl := dl.tab.tab (by omega) (by omega) (by omega)
  have h1 := more_paper_ok jl dl hf.len hf.mem
  rw [hf.fits dl.tab.sy] at h1
  have h3 := with_point_ok jl dl hf
  rw [hw] at h3
  generalize (T.getD (n - 1) []).take (n - 1) = r0 at *
  generalize mv T (List.range (n - 1)) = M at *
  simp [h1, h3, D.eq, D.eqs, isStr1, isStr]
theorem st6 (s : Rd) (sc : D) (n : Nat) (T : List (List Int)) (h2 : 2 ≤ n) (h6 : n ≤ 6) (hD : Dst n T) (bT : ∀ i j, i < n → j < n → at2 T i j ≤ 100) : (sIf (tOr (tB (e2 oNe (eCall G.F_glued [.va (eV 3), .va (eV 3), .va (eV 2)]) (eV 3))) (tB (e2 oNe (eCall G.F_least_glued [.va (eV 3), .va (eV 3), .va (eV 2)]) (eV 3)))) (sRet (eC (.bl false))) sNil) [some (.v sc), some (Rd.v s), some (.v (.int (n : Int))), some (.v (tt T)), some (.v (tt (mv T (List.range (n - 1))))), some (.v (ti ((T.getD (n - 1) []).take (n - 1)))), none, none, none, none, none, none, none, none, none, none, none, none, none, none, none, none, none, none, none, none, none] = .nxt [some (.v sc), some (Rd.v s), some (.v (.int (n : Int))), some (.v (tt T)), some (.v (tt (mv T (List.range (n - 1))))), some (.v (ti ((T.getD (n - 1) []).take (n - 1)))), none, none, none, none, none, none, none, none, none, none, none, none, none, none, none, none, none, none, none, none, none] := by
  have hT := hD.tab
  have jT := hT.tab (by omega) (by omega) (by omega)
  have lT := hT.sq.len
  have sT := hT.sqr
  have sh := shr_self hD (by omega) (by omega)
  have h1 := glued_ok sh
  have h3 := least_glued_ok sh
  rw [glu_self _ lT] at h1 h3
  generalize (T.getD (n - 1) []).take (n - 1) = r0 at *
  generalize mv T (List.range (n - 1)) = M at *
  simp [h1, h3]
theorem st7 (s : Rd) (sc : D) (n : Nat) (T : List (List Int)) (h2 : 2 ≤ n) (h6 : n ≤ 6) (hD : Dst n T) (bT : ∀ i j, i < n → j < n → at2 T i j ≤ 100) (r4 r5 : Option Vl) : ∃ (k : Nat) (s' : Rd), (1 ≤ k ∧ k < n) ∧ (sSet 6 (e2 oAdd (eC (.int 1)) (eCall G.F__law_take [.lent 1, .va (e2 oSub (eV 2) (eC (.int 1)))]))) [some (.v sc), some (Rd.v s), some (.v (.int (n : Int))), some (.v (tt T)), r4, r5, none, none, none, none, none, none, none, none, none, none, none, none, none, none, none, none, none, none, none, none, none] = .nxt [some (.v sc), some (Rd.v s'), some (.v (.int (n : Int))), some (.v (tt T)), r4, r5, some (.v (.int ((k : Nat) : Int))), none, none, none, none, none, none, none, none, none, none, none, none, none, none, none, none, none, none, none, none] := by
  obtain ⟨r, s', r0, r1, h⟩ := take_spec s ((n : Int) - 1) (by omega) (by omega)
  refine ⟨(1 + r).toNat, s', ⟨by omega, by omega⟩, ?_⟩
  have e : (((1 + r).toNat : Nat) : Int) = 1 + r := by omega
  rw [e]
  simp [h]
theorem st8 (s : Rd) (sc : D) (n : Nat) (T : List (List Int)) (h2 : 2 ≤ n) (h6 : n ≤ 6) (hD : Dst n T) (bT : ∀ i j, i < n → j < n → at2 T i j ≤ 100) (r4 r5 : Option Vl) (k : Nat) (k1 : 1 ≤ k) (kn : k < n) : (sSet 7 (eLr2 (eV 6) (eV 2))) [some (.v sc), some (Rd.v s), some (.v (.int (n : Int))), some (.v (tt T)), r4, r5, some (.v (.int ((k : Nat) : Int))), none, none, none, none, none, none, none, none, none, none, none, none, none, none, none, none, none, none, none, none] = .nxt [some (.v sc), some (Rd.v s), some (.v (.int (n : Int))), some (.v (tt T)), r4, r5, some (.v (.int ((k : Nat) : Int))), some (.o ((List.range' k (n - k)).map nD)), none, none, none, none, none, none, none, none, none, none, none, none, none, none, none, none, none, none, none] := by
  have rg := rgOk_nat (a := k) (b := n) (by omega) (by omega)
  have et : ((n : Int) - (k : Int)).toNat = n - k := by omega
  have er := rng_nD k (n - k)
  simp [rg, et, er]
theorem st9 (s : Rd) (sc : D) (n : Nat) (T : List (List Int)) (h2 : 2 ≤ n) (h6 : n ≤ 6) (hD : Dst n T) (bT : ∀ i j, i < n → j < n → at2 T i j ≤ 100) (r4 r5 : Option Vl) (k : Nat) (k1 : 1 ≤ k) (kn : k < n) : ∃ (one : List Nat) (s' : Rd), one.Sublist (List.range' k (n - k)) ∧ (sSet 8 (eComp [17] (iL (eV 7)) (gN 17) (tB (e2 oEq (eCall G.F__law_take [.lent 1, .va (eC (.int 2))]) (eC (.int 0)))) (eV 17))) [some (.v sc), some (Rd.v s), some (.v (.int (n : Int))), some (.v (tt T)), r4, r5, some (.v (.int ((k : Nat) : Int))), some (.o ((List.range' k (n - k)).map nD)), none, none, none, none, none, none, none, none, none, none, none, none, none, none, none, none, none, none, none] = .nxt [some (.v sc), some (Rd.v s'), some (.v (.int (n : Int))), some (.v (tt T)), r4, r5, some (.v (.int ((k : Nat) : Int))), some (.v (.lst ((List.range' k (n - k)).map nD))), some (.o ((one).map nD)), none, none, none, none, none, none, none, none, none, none, none, none, none, none, none, none, none, none] := by
  obtain ⟨r, e2, hsub, hc, s', rfl⟩ := eCompT (k := 17) (it := iL (eV 7)) (t := (tB (e2 oEq (eCall G.F__law_take [.lent 1, .va (eC (.int 2))]) (eC (.int 0))))) (x := (eV 17)) (e := [some (.v sc), some (Rd.v s), some (.v (.int (n : Int))), some (.v (tt T)), r4, r5, some (.v (.int ((k : Nat) : Int))), some (.o ((List.range' k (n - k)).map nD)), none, none, none, none, none, none, none, none, none, none, none, none, none, none, none, none, none, none, none]) (e1 := [some (.v sc), some (Rd.v s), some (.v (.int (n : Int))), some (.v (tt T)), r4, r5, some (.v (.int ((k : Nat) : Int))), some (.v (.lst ((List.range' k (n - k)).map nD))), none, none, none, none, none, none, none, none, none, none, none, none, none, none, none, none, none, none, none]) (l := (List.range' k (n - k)).map nD) (fun e => ∃ s' : Rd, e = [some (.v sc), some (Rd.v s'), some (.v (.int (n : Int))), some (.v (tt T)), r4, r5, some (.v (.int ((k : Nat) : Int))), some (.v (.lst ((List.range' k (n - k)).map nD))), none, none, none, none, none, none, none, none, none, none, none, none, none, none, none, none, none, none, none])
    (by simp) (by rw [List.length_map, List.length_range']; unfold lim; omega) rfl ⟨s, rfl⟩ (by
      rintro d hd e ⟨s1, rfl⟩
      obtain ⟨z, s2, z0, z1, ht⟩ := take_spec s1 2 (by omega) (by omega)
      refine ⟨decide (z = 0), [some (.v sc), some (Rd.v s2), some (.v (.int (n : Int))), some (.v (tt T)), r4, r5, some (.v (.int ((k : Nat) : Int))), some (.v (.lst ((List.range' k (n - k)).map nD))), none, none, none, none, none, none, none, none, none, some (.v d), none, none, none, none, none, none, none, none, none], by simp [ht], ⟨s2, rfl⟩, fun _ => ⟨.v d, by simp, rfl⟩⟩)
  obtain ⟨one, h1, rfl⟩ := List.sublist_map_iff.mp hsub
  refine ⟨one, s', h1, ?_⟩
  simp only [List.set_cons_succ, List.set_cons_zero] at hc
  generalize eComp [17] (iL (eV 7)) (gN 17) (tB (e2 oEq (eCall G.F__law_take [.lent 1, .va (eC (.int 2))]) (eC (.int 0)))) (eV 17) = Y at hc ⊢
  generalize (List.range' k (n - k)).map nD = R at *
  generalize one.map nD = R1 at *
  simp [hc]
theorem st10 (s : Rd) (sc : D) (n : Nat) (T : List (List Int)) (h2 : 2 ≤ n) (h6 : n ≤ 6) (hD : Dst n T) (bT : ∀ i j, i < n → j < n → at2 T i j ≤ 100) (r4 r5 : Option Vl) (k : Nat) (k1 : 1 ≤ k) (kn : k < n) (one : List Nat) (hone : one.Sublist (List.range' k (n - k))) : (sSet 9 (eComp [17] (iL (eV 7)) (gN 17) (tB (e2 oNotIn (eV 17) (eP 8))) (eV 17))) [some (.v sc), some (Rd.v s), some (.v (.int (n : Int))), some (.v (tt T)), r4, r5, some (.v (.int ((k : Nat) : Int))), some (.v (.lst ((List.range' k (n - k)).map nD))), some (.o ((one).map nD)), none, none, none, none, none, none, none, none, none, none, none, none, none, none, none, none, none, none] = .nxt [some (.v sc), some (Rd.v s), some (.v (.int (n : Int))), some (.v (tt T)), r4, r5, some (.v (.int ((k : Nat) : Int))), some (.v (.lst ((List.range' k (n - k)).map nD))), some (.o ((one).map nD)), some (.o ((oth n k one).map nD)), none, none, none, none, none, none, none, none, none, none, none, none, none, none, none, none, none] := by
  have hc := eComp1 (k := 17) (it := iL (eV 7)) (t := (tB (e2 oNotIn (eV 17) (eP 8)))) (x := (eV 17)) (e := [some (.v sc), some (Rd.v s), some (.v (.int (n : Int))), some (.v (tt T)), r4, r5, some (.v (.int ((k : Nat) : Int))), some (.v (.lst ((List.range' k (n - k)).map nD))), some (.o ((one).map nD)), none, none, none, none, none, none, none, none, none, none, none, none, none, none, none, none, none, none]) (e1 := [some (.v sc), some (Rd.v s), some (.v (.int (n : Int))), some (.v (tt T)), r4, r5, some (.v (.int ((k : Nat) : Int))), some (.v (.lst ((List.range' k (n - k)).map nD))), some (.o ((one).map nD)), none, none, none, none, none, none, none, none, none, none, none, none, none, none, none, none, none, none]) (l := (List.range' k (n - k)).map nD) (fun c => !one.contains c.nat) (fun c => c)
    (by simp) (by rw [List.length_map, List.length_range']; unfold lim; omega) rfl (fun d hd => by
      obtain ⟨x, hx, rfl⟩ := List.mem_map.mp hd
      have hn := notin_o x one
      have e1 : (nD x).nat = x := rfl
      rw [e1]
      unfold nD at *
      generalize (List.range' k (n - k)).map (fun (k : Nat) => D.int (k : Int)) = R at *
      generalize one.map (fun (k : Nat) => D.int (k : Int)) = R1 at *
      simp [hn])
    (fun d hd _ => by
      generalize (List.range' k (n - k)).map nD = R at *
      generalize one.map nD = R1 at *
      exact ⟨.v d, by simp, rfl⟩)
  have e : (((List.range' k (n - k)).map nD).filter fun c => !one.contains c.nat).map (fun c => c) = (oth n k one).map nD := by
    rw [List.filter_map, List.map_map]
    rfl
  rw [e] at hc
  generalize eComp [17] (iL (eV 7)) (gN 17) (tB (e2 oNotIn (eV 17) (eP 8))) (eV 17) = Y at hc ⊢
  generalize (List.range' k (n - k)).map nD = R at *
  generalize (oth n k one).map nD = R2 at *
  generalize one.map nD = R1 at *
  simp [hc]
theorem st11 (s : Rd) (sc : D) (n : Nat) (T : List (List Int)) (h2 : 2 ≤ n) (h6 : n ≤ 6) (hD : Dst n T) (bT : ∀ i j, i < n → j < n → at2 T i j ≤ 100) (r4 r5 : Option Vl) (k : Nat) (k1 : 1 ≤ k) (kn : k < n) (one : List Nat) (hone : one.Sublist (List.range' k (n - k))) : (sSet 10 (e2 oAdd (eLr1 (eV 6)) (eV 8))) [some (.v sc), some (Rd.v s), some (.v (.int (n : Int))), some (.v (tt T)), r4, r5, some (.v (.int ((k : Nat) : Int))), some (.v (.lst ((List.range' k (n - k)).map nD))), some (.o ((one).map nD)), some (.o ((oth n k one).map nD)), none, none, none, none, none, none, none, none, none, none, none, none, none, none, none, none, none] = .nxt [some (.v sc), some (Rd.v s), some (.v (.int (n : Int))), some (.v (tt T)), r4, r5, some (.v (.int ((k : Nat) : Int))), some (.v (.lst ((List.range' k (n - k)).map nD))), some (.v (.lst ((one).map nD))), some (.o ((oth n k one).map nD)), some (.o ((fst' k one).map nD)), none, none, none, none, none, none, none, none, none, none, none, none, none, none, none, none] := by
  have pr := oth_prt k1 (show k ≤ n by omega) hone
  have pl := pr.len
  have rg := rgOk_nat0 (b := k) (by omega)
  have er := rng0_nD k
  have e : (fst' k one).map nD = (List.range k).map nD ++ one.map nD := by unfold fst'; rw [List.map_append]
  have hl : ((List.range k).map nD).length + (one.map nD).length ≤ lim := by
    rw [List.length_map, List.length_map, List.length_range]
    unfold lim
    omega
  rw [e]
  generalize (List.range' k (n - k)).map nD = R at *
  generalize (oth n k one).map nD = R2 at *
  generalize one.map nD = R1 at *
  generalize (List.range k).map nD = R3 at *
  simp [rg, er, oAdd, hl]
theorem st12 (s : Rd) (sc : D) (n : Nat) (T : List (List Int)) (h2 : 2 ≤ n) (h6 : n ≤ 6) (hD : Dst n T) (bT : ∀ i j, i < n → j < n → at2 T i j ≤ 100) (r4 r5 : Option Vl) (k : Nat) (k1 : 1 ≤ k) (kn : k < n) (one : List Nat) (hone : one.Sublist (List.range' k (n - k))) : (sSet 11 (e2 oAdd (eLr1 (eV 6)) (eV 9))) [some (.v sc), some (Rd.v s), some (.v (.int (n : Int))), some (.v (tt T)), r4, r5, some (.v (.int ((k : Nat) : Int))), some (.v (.lst ((List.range' k (n - k)).map nD))), some (.v (.lst ((one).map nD))), some (.o ((oth n k one).map nD)), some (.o ((fst' k one).map nD)), none, none, none, none, none, none, none, none, none, none, none, none, none, none, none, none] = .nxt [some (.v sc), some (Rd.v s), some (.v (.int (n : Int))), some (.v (tt T)), r4, r5, some (.v (.int ((k : Nat) : Int))), some (.v (.lst ((List.range' k (n - k)).map nD))), some (.v (.lst ((one).map nD))), some (.v (.lst ((oth n k one).map nD))), some (.o ((fst' k one).map nD)), some (.o ((fst' k (oth n k one)).map nD)), none, none, none, none, none, none, none, none, none, none, none, none, none, none, none] := by
  have pr := oth_prt k1 (show k ≤ n by omega) hone
  have pl := pr.len
  have rg := rgOk_nat0 (b := k) (by omega)
  have er := rng0_nD k
  have e : (fst' k (oth n k one)).map nD = (List.range k).map nD ++ (oth n k one).map nD := by unfold fst'; rw [List.map_append]
  have hl : ((List.range k).map nD).length + ((oth n k one).map nD).length ≤ lim := by
    rw [List.length_map, List.length_map, List.length_range]
    unfold lim
    omega
  rw [e]
  generalize (List.range' k (n - k)).map nD = R at *
  generalize (fst' k one).map nD = R4 at *
  generalize (oth n k one).map nD = R2 at *
  generalize one.map nD = R1 at *
  generalize (List.range k).map nD = R3 at *
  simp [rg, er, oAdd, hl]
def bothP (n k : Nat) (T : List (List Int)) (one : List Nat) : List (List Int) := gluT (stepV (mv T (fst' k one)) (mv T (fst' k (oth n k one))) k) k (k + one.length) (k + (oth n k one).length) (mv T (fst' k one)) (mv T (fst' k (oth n k one)))
def lowP (n k : Nat) (T : List (List Int)) (one : List Nat) : List (List Int) := gluT (gapV (mv T (fst' k one)) (mv T (fst' k (oth n k one))) k) k (k + one.length) (k + (oth n k one).length) (mv T (fst' k one)) (mv T (fst' k (oth n k one)))
def turnP (n k : Nat) (T : List (List Int)) (one : List Nat) : List (List Int) := gluT (stepV (mv T (fst' k (oth n k one))) (mv T (fst' k one)) k) k (k + (oth n k one).length) (k + one.length) (mv T (fst' k (oth n k one))) (mv T (fst' k one))
theorem st13 (s : Rd) (sc : D) (n : Nat) (T : List (List Int)) (h2 : 2 ≤ n) (h6 : n ≤ 6) (hD : Dst n T) (bT : ∀ i j, i < n → j < n → at2 T i j ≤ 100) (r4 r5 : Option Vl) (k : Nat) (k1 : 1 ≤ k) (kn : k < n) (one : List Nat) (hone : one.Sublist (List.range' k (n - k))) : (sSet 12 (eCall G.F_glued [.va (eCall G.F__law_part [.va (eV 3), .va (eV 10)]), .va (eCall G.F__law_part [.va (eV 3), .va (eV 11)]), .va (eV 6)])) [some (.v sc), some (Rd.v s), some (.v (.int (n : Int))), some (.v (tt T)), r4, r5, some (.v (.int ((k : Nat) : Int))), some (.v (.lst ((List.range' k (n - k)).map nD))), some (.v (.lst ((one).map nD))), some (.v (.lst ((oth n k one).map nD))), some (.o ((fst' k one).map nD)), some (.o ((fst' k (oth n k one)).map nD)), none, none, none, none, none, none, none, none, none, none, none, none, none, none, none] = .nxt [some (.v sc), some (Rd.v s), some (.v (.int (n : Int))), some (.v (tt T)), r4, r5, some (.v (.int ((k : Nat) : Int))), some (.v (.lst ((List.range' k (n - k)).map nD))), some (.v (.lst ((one).map nD))), some (.v (.lst ((oth n k one).map nD))), some (.v (.lst ((fst' k one).map nD))), some (.v (.lst ((fst' k (oth n k one)).map nD))), some (.v (tt (bothP n k T one))), none, none, none, none, none, none, none, none, none, none, none, none, none, none] := by
  have hT := hD.tab
  have jT := hT.tab (by omega) (by omega) (by omega)
  have lT := hT.sq.len
  have sT := hT.sqr
  have pr := oth_prt k1 (show k ≤ n by omega) hone
  have pl := pr.len
  have p1 := law_part_ok (o := fst' k one) hT.sq (by omega) (by rw [fst_len]; omega) pr.fst_lt
  have p2 := law_part_ok (o := fst' k (oth n k one)) hT.sq (by omega) (by rw [fst_len]; omega) pr.swap.fst_lt
  rw [li_eq] at p1 p2
  have g := glued_ok (pr.shr hD (by omega))
  change G.F_glued _ = .ok (.v (tt (bothP n k T one))) [] at g
  generalize bothP n k T one = BB at *
  generalize (List.range' k (n - k)).map nD = R at *
  generalize mv T (fst' k one) = M1 at *
  generalize mv T (fst' k (oth n k one)) = M2 at *
  generalize (fst' k one).map nD = R4 at *
  generalize (fst' k (oth n k one)).map nD = R5 at *
  generalize (oth n k one).map nD = R2 at *
  generalize one.map nD = R1 at *
  simp [p1, p2, g]
theorem st14 (s : Rd) (sc : D) (n : Nat) (T : List (List Int)) (h2 : 2 ≤ n) (h6 : n ≤ 6) (hD : Dst n T) (bT : ∀ i j, i < n → j < n → at2 T i j ≤ 100) (r4 r5 : Option Vl) (k : Nat) (k1 : 1 ≤ k) (kn : k < n) (one : List Nat) (hone : one.Sublist (List.range' k (n - k))) : (sSet 13 (eCall G.F_least_glued [.va (eCall G.F__law_part [.va (eV 3), .va (eV 10)]), .va (eCall G.F__law_part [.va (eV 3), .va (eV 11)]), .va (eV 6)])) [some (.v sc), some (Rd.v s), some (.v (.int (n : Int))), some (.v (tt T)), r4, r5, some (.v (.int ((k : Nat) : Int))), some (.v (.lst ((List.range' k (n - k)).map nD))), some (.v (.lst ((one).map nD))), some (.v (.lst ((oth n k one).map nD))), some (.v (.lst ((fst' k one).map nD))), some (.v (.lst ((fst' k (oth n k one)).map nD))), some (.v (tt (bothP n k T one))), none, none, none, none, none, none, none, none, none, none, none, none, none, none] = .nxt [some (.v sc), some (Rd.v s), some (.v (.int (n : Int))), some (.v (tt T)), r4, r5, some (.v (.int ((k : Nat) : Int))), some (.v (.lst ((List.range' k (n - k)).map nD))), some (.v (.lst ((one).map nD))), some (.v (.lst ((oth n k one).map nD))), some (.v (.lst ((fst' k one).map nD))), some (.v (.lst ((fst' k (oth n k one)).map nD))), some (.v (tt (bothP n k T one))), some (.v (tt (lowP n k T one))), none, none, none, none, none, none, none, none, none, none, none, none, none] := by
  have hT := hD.tab
  have jT := hT.tab (by omega) (by omega) (by omega)
  have lT := hT.sq.len
  have sT := hT.sqr
  have pr := oth_prt k1 (show k ≤ n by omega) hone
  have pl := pr.len
  have p1 := law_part_ok (o := fst' k one) hT.sq (by omega) (by rw [fst_len]; omega) pr.fst_lt
  have p2 := law_part_ok (o := fst' k (oth n k one)) hT.sq (by omega) (by rw [fst_len]; omega) pr.swap.fst_lt
  rw [li_eq] at p1 p2
  have g := least_glued_ok (pr.shr hD (by omega))
  change G.F_least_glued _ = .ok (.v (tt (lowP n k T one))) [] at g
  generalize bothP n k T one = BB at *
  generalize lowP n k T one = BL at *
  generalize (List.range' k (n - k)).map nD = R at *
  generalize mv T (fst' k one) = M1 at *
  generalize mv T (fst' k (oth n k one)) = M2 at *
  generalize (fst' k one).map nD = R4 at *
  generalize (fst' k (oth n k one)).map nD = R5 at *
  generalize (oth n k one).map nD = R2 at *
  generalize one.map nD = R1 at *
  simp [p1, p2, g]
theorem st15 (s : Rd) (sc : D) (n : Nat) (T : List (List Int)) (h2 : 2 ≤ n) (h6 : n ≤ 6) (hD : Dst n T) (bT : ∀ i j, i < n → j < n → at2 T i j ≤ 100) (r4 r5 : Option Vl) (k : Nat) (k1 : 1 ≤ k) (kn : k < n) (one : List Nat) (hone : one.Sublist (List.range' k (n - k))) : (sSet 14 (e2 oAdd (eV 10) (eV 9))) [some (.v sc), some (Rd.v s), some (.v (.int (n : Int))), some (.v (tt T)), r4, r5, some (.v (.int ((k : Nat) : Int))), some (.v (.lst ((List.range' k (n - k)).map nD))), some (.v (.lst ((one).map nD))), some (.v (.lst ((oth n k one).map nD))), some (.v (.lst ((fst' k one).map nD))), some (.v (.lst ((fst' k (oth n k one)).map nD))), some (.v (tt (bothP n k T one))), some (.v (tt (lowP n k T one))), none, none, none, none, none, none, none, none, none, none, none, none, none] = .nxt [some (.v sc), some (Rd.v s), some (.v (.int (n : Int))), some (.v (tt T)), r4, r5, some (.v (.int ((k : Nat) : Int))), some (.v (.lst ((List.range' k (n - k)).map nD))), some (.v (.lst ((one).map nD))), some (.v (.lst ((oth n k one).map nD))), some (.v (.lst ((fst' k one).map nD))), some (.v (.lst ((fst' k (oth n k one)).map nD))), some (.v (tt (bothP n k T one))), some (.v (tt (lowP n k T one))), some (.o ((fst' k one ++ oth n k one).map nD)), none, none, none, none, none, none, none, none, none, none, none, none] := by
  have pr := oth_prt k1 (show k ≤ n by omega) hone
  have pl := pr.len
  have hl : ((fst' k one).map nD).length + ((oth n k one).map nD).length ≤ lim := by
    rw [List.length_map, List.length_map, fst_len]
    unfold lim
    omega
  rw [List.map_append]
  generalize bothP n k T one = BB at *
  generalize lowP n k T one = BL at *
  generalize (List.range' k (n - k)).map nD = R at *
  generalize mv T (fst' k one) = M1 at *
  generalize mv T (fst' k (oth n k one)) = M2 at *
  generalize (fst' k one).map nD = R4 at *
  generalize (fst' k (oth n k one)).map nD = R5 at *
  generalize (oth n k one).map nD = R2 at *
  generalize one.map nD = R1 at *
  simp [oAdd, hl]
theorem st16a (s : Rd) (sc : D) (n : Nat) (T : List (List Int)) (h2 : 2 ≤ n) (h6 : n ≤ 6) (hD : Dst n T) (bT : ∀ i j, i < n → j < n → at2 T i j ≤ 100) (r4 r5 : Option Vl) (k : Nat) (k1 : 1 ≤ k) (kn : k < n) (one : List Nat) (hone : one.Sublist (List.range' k (n - k))) (i j : Nat) (hi : i < n) (hj : j < n) (r17 r18 : Option Vl) : (sSeq (sSet 17 (eIxP 14 (eV 15))) (sSeq (sSet 18 (eIxP 14 (eV 16))) (sSeq (sIf (tOr (tB (e2 oLt (e2 oIx (eIxP 12 (eV 15)) (eV 16)) (e2 oIx (eIxP 3 (eV 17)) (eV 18)))) (tB (e2 oGt (e2 oIx (eIxP 13 (eV 15)) (eV 16)) (e2 oIx (eIxP 3 (eV 17)) (eV 18))))) (sRet (eC (.bl false))) sNil) (sIf (tAnd (tOr (tAnd (tB (e2 oIn (eV 17) (eP 10))) (tB (e2 oIn (eV 18) (eP 10)))) (tAnd (tB (e2 oIn (eV 17) (eP 11))) (tB (e2 oIn (eV 18) (eP 11))))) (tOr (tB (e2 oNe (e2 oIx (eIxP 12 (eV 15)) (eV 16)) (e2 oIx (eIxP 3 (eV 17)) (eV 18)))) (tB (e2 oNe (e2 oIx (eIxP 13 (eV 15)) (eV 16)) (e2 oIx (eIxP 3 (eV 17)) (eV 18)))))) (sRet (eC (.bl false))) sNil)))) [some (.v sc), some (Rd.v s), some (.v (.int (n : Int))), some (.v (tt T)), r4, r5, some (.v (.int ((k : Nat) : Int))), some (.v (.lst ((List.range' k (n - k)).map nD))), some (.v (.lst ((one).map nD))), some (.v (.lst ((oth n k one).map nD))), some (.v (.lst ((fst' k one).map nD))), some (.v (.lst ((fst' k (oth n k one)).map nD))), some (.v (tt (bothP n k T one))), some (.v (tt (lowP n k T one))), some (.o ((fst' k one ++ oth n k one).map nD)), some (.v (.int ((i : Nat) : Int))), some (.v (.int ((j : Nat) : Int))), r17, r18, none, none, none, none, none, none, none, none] = .nxt [some (.v sc), some (Rd.v s), some (.v (.int (n : Int))), some (.v (tt T)), r4, r5, some (.v (.int ((k : Nat) : Int))), some (.v (.lst ((List.range' k (n - k)).map nD))), some (.v (.lst ((one).map nD))), some (.v (.lst ((oth n k one).map nD))), some (.v (.lst ((fst' k one).map nD))), some (.v (.lst ((fst' k (oth n k one)).map nD))), some (.v (tt (bothP n k T one))), some (.v (tt (lowP n k T one))), some (.o ((fst' k one ++ oth n k one).map nD)), some (.v (.int ((i : Nat) : Int))), some (.v (.int ((j : Nat) : Int))), some (.v (.int (((fst' k one ++ oth n k one).getD i 0 : Nat) : Int))), some (.v (.int (((fst' k one ++ oth n k one).getD j 0 : Nat) : Int))), none, none, none, none, none, none, none, none] := by
  have hT := hD.tab
  have jT := hT.tab (by omega) (by omega) (by omega)
  have lT := hT.sq.len
  have sT := hT.sqr
  have pr := oth_prt k1 (show k ≤ n by omega) hone
  have pl := pr.len
  have kn' : k ≤ n := by omega
  have nl : (fst' k one ++ oth n k one).length = n := by rw [List.length_append, fst_len]; omega
  have ii := ix_nD (fst' k one ++ oth n k one) (i := i) (by omega)
  have ij := ix_nD (fst' k one ++ oth n k one) (i := j) (by omega)
  have hx := names_get pr hi
  have hy := names_get pr hj
  have wv := WV_glu pr hD hi hj
  have gv := GV_glu pr hD hi hj
  change at2 (bothP n k T one) i j = _ at wv
  change at2 (lowP n k T one) i j = _ at gv
  have sB : Sq n (bothP n k T one) := by
    have := glu_sq (f := stepV (mv T (fst' k one)) (mv T (fst' k (oth n k one))) k) (k := k) (pr.shr hD (by omega)).dA.tab.sq (pr.shr hD (by omega)).dO.tab.sq (by omega)
    rw [show k + one.length + (k + (oth n k one).length) - k = n by omega] at this
    exact this
  have sL : Sq n (lowP n k T one) := by
    have := glu_sq (f := gapV (mv T (fst' k one)) (mv T (fst' k (oth n k one))) k) (k := k) (pr.shr hD (by omega)).dA.tab.sq (pr.shr hD (by omega)).dO.tab.sq (by omega)
    rw [show k + one.length + (k + (oth n k one).length) - k = n by omega] at this
    exact this
  obtain ⟨rb, b1, b2⟩ := ix_tt2 sB hi hj
  obtain ⟨rl, l1, l2⟩ := ix_tt2 sL hi hj
  rw [wv] at b2
  rw [gv] at l2
  obtain ⟨rt, t1, t2⟩ := ix_tt2 hT.sq hx hy
  have c1 := in_l ((fst' k one ++ oth n k one).getD i 0) (fst' k one)
  have c2 := in_l ((fst' k one ++ oth n k one).getD j 0) (fst' k one)
  have c3 := in_l ((fst' k one ++ oth n k one).getD i 0) (fst' k (oth n k one))
  have c4 := in_l ((fst' k one ++ oth n k one).getD j 0) (fst' k (oth n k one))
  have w1 := wS_ge hD k1 kn' hx hy
  have w2 := wG_le hD k1 kn' hx hy
  unfold WV at b2
  unfold GV at l2
  clear wv gv pr pl nl sB sL
  generalize (fst' k one ++ oth n k one).map nD = R6 at *
  generalize (fst' k one ++ oth n k one).getD i 0 = x at *
  generalize (fst' k one ++ oth n k one).getD j 0 = y at *
  generalize bothP n k T one = BB at *
  generalize lowP n k T one = BL at *
  generalize wS T k x y = ws at *
  generalize wG T k x y = wg at *
  generalize at2 T x y = t at *
  have q1 : (x ∈ fst' k one) ↔ (fst' k one).contains x = true := by simp
  have q2 : (y ∈ fst' k one) ↔ (fst' k one).contains y = true := by simp
  have q3 : (x ∈ fst' k (oth n k one)) ↔ (fst' k (oth n k one)).contains x = true := by simp
  have q4 : (y ∈ fst' k (oth n k one)) ↔ (fst' k (oth n k one)).contains y = true := by simp
  simp only [q1, q2, q3, q4] at b2 l2
  clear q1 q2 q3 q4
  generalize (fst' k one).contains x = u1 at *
  generalize (fst' k one).contains y = u2 at *
  generalize (fst' k (oth n k one)).contains x = u3 at *
  generalize (fst' k (oth n k one)).contains y = u4 at *
  generalize (List.range' k (n - k)).map nD = R at *
  generalize mv T (fst' k one) = M1 at *
  generalize mv T (fst' k (oth n k one)) = M2 at *
  generalize (fst' k one).map nD = R4 at *
  generalize (fst' k (oth n k one)).map nD = R5 at *
  generalize (oth n k one).map nD = R2 at *
  generalize one.map nD = R1 at *
  have hlt : ¬ ws < t := by omega
  have hgt : ¬ t < wg := by omega
  have hrfl : ¬ t < t := by omega
  cases u1 <;> cases u2 <;> cases u3 <;> cases u4 <;> simp at b2 l2 <;> simp [ii, ij, b1, b2, l1, l2, t1, t2, c1, c2, c3, c4, hlt, hgt, hrfl]
theorem st16b (s : Rd) (sc : D) (n : Nat) (T : List (List Int)) (h2 : 2 ≤ n) (h6 : n ≤ 6) (hD : Dst n T) (bT : ∀ i j, i < n → j < n → at2 T i j ≤ 100) (r4 r5 : Option Vl) (k : Nat) (k1 : 1 ≤ k) (kn : k < n) (one : List Nat) (hone : one.Sublist (List.range' k (n - k))) (i : Nat) (hi : i < n) (r16 r17 r18 : Option Vl) : ∃ r16' d17 d18, (sFor (iR1 (eV 2)) (gN 16) (sSeq (sSet 17 (eIxP 14 (eV 15))) (sSeq (sSet 18 (eIxP 14 (eV 16))) (sSeq (sIf (tOr (tB (e2 oLt (e2 oIx (eIxP 12 (eV 15)) (eV 16)) (e2 oIx (eIxP 3 (eV 17)) (eV 18)))) (tB (e2 oGt (e2 oIx (eIxP 13 (eV 15)) (eV 16)) (e2 oIx (eIxP 3 (eV 17)) (eV 18))))) (sRet (eC (.bl false))) sNil) (sIf (tAnd (tOr (tAnd (tB (e2 oIn (eV 17) (eP 10))) (tB (e2 oIn (eV 18) (eP 10)))) (tAnd (tB (e2 oIn (eV 17) (eP 11))) (tB (e2 oIn (eV 18) (eP 11))))) (tOr (tB (e2 oNe (e2 oIx (eIxP 12 (eV 15)) (eV 16)) (e2 oIx (eIxP 3 (eV 17)) (eV 18)))) (tB (e2 oNe (e2 oIx (eIxP 13 (eV 15)) (eV 16)) (e2 oIx (eIxP 3 (eV 17)) (eV 18)))))) (sRet (eC (.bl false))) sNil))))) [some (.v sc), some (Rd.v s), some (.v (.int (n : Int))), some (.v (tt T)), r4, r5, some (.v (.int ((k : Nat) : Int))), some (.v (.lst ((List.range' k (n - k)).map nD))), some (.v (.lst ((one).map nD))), some (.v (.lst ((oth n k one).map nD))), some (.v (.lst ((fst' k one).map nD))), some (.v (.lst ((fst' k (oth n k one)).map nD))), some (.v (tt (bothP n k T one))), some (.v (tt (lowP n k T one))), some (.o ((fst' k one ++ oth n k one).map nD)), some (.v (.int ((i : Nat) : Int))), r16, r17, r18, none, none, none, none, none, none, none, none] = .nxt [some (.v sc), some (Rd.v s), some (.v (.int (n : Int))), some (.v (tt T)), r4, r5, some (.v (.int ((k : Nat) : Int))), some (.v (.lst ((List.range' k (n - k)).map nD))), some (.v (.lst ((one).map nD))), some (.v (.lst ((oth n k one).map nD))), some (.v (.lst ((fst' k one).map nD))), some (.v (.lst ((fst' k (oth n k one)).map nD))), some (.v (tt (bothP n k T one))), some (.v (tt (lowP n k T one))), some (.o ((fst' k one ++ oth n k one).map nD)), some (.v (.int ((i : Nat) : Int))), r16', some (.v d17), some (.v d18), none, none, none, none, none, none, none, none] := by
  obtain ⟨e', h, q16, q17, q18, hz, rfl⟩ := forGoR (g := gN 16) (b := (sSeq (sSet 17 (eIxP 14 (eV 15))) (sSeq (sSet 18 (eIxP 14 (eV 16))) (sSeq (sIf (tOr (tB (e2 oLt (e2 oIx (eIxP 12 (eV 15)) (eV 16)) (e2 oIx (eIxP 3 (eV 17)) (eV 18)))) (tB (e2 oGt (e2 oIx (eIxP 13 (eV 15)) (eV 16)) (e2 oIx (eIxP 3 (eV 17)) (eV 18))))) (sRet (eC (.bl false))) sNil) (sIf (tAnd (tOr (tAnd (tB (e2 oIn (eV 17) (eP 10))) (tB (e2 oIn (eV 18) (eP 10)))) (tAnd (tB (e2 oIn (eV 17) (eP 11))) (tB (e2 oIn (eV 18) (eP 11))))) (tOr (tB (e2 oNe (e2 oIx (eIxP 12 (eV 15)) (eV 16)) (e2 oIx (eIxP 3 (eV 17)) (eV 18)))) (tB (e2 oNe (e2 oIx (eIxP 13 (eV 15)) (eV 16)) (e2 oIx (eIxP 3 (eV 17)) (eV 18)))))) (sRet (eC (.bl false))) sNil))))) (fun j e => ∃ r16 r17 r18, (0 < j → ∃ d17 d18, r17 = some (.v d17) ∧ r18 = some (.v d18)) ∧ e = [some (.v sc), some (Rd.v s), some (.v (.int (n : Int))), some (.v (tt T)), r4, r5, some (.v (.int ((k : Nat) : Int))), some (.v (.lst ((List.range' k (n - k)).map nD))), some (.v (.lst ((one).map nD))), some (.v (.lst ((oth n k one).map nD))), some (.v (.lst ((fst' k one).map nD))), some (.v (.lst ((fst' k (oth n k one)).map nD))), some (.v (tt (bothP n k T one))), some (.v (tt (lowP n k T one))), some (.o ((fst' k one ++ oth n k one).map nD)), some (.v (.int ((i : Nat) : Int))), r16, r17, r18, none, none, none, none, none, none, none, none]) n n 0 [some (.v sc), some (Rd.v s), some (.v (.int (n : Int))), some (.v (tt T)), r4, r5, some (.v (.int ((k : Nat) : Int))), some (.v (.lst ((List.range' k (n - k)).map nD))), some (.v (.lst ((one).map nD))), some (.v (.lst ((oth n k one).map nD))), some (.v (.lst ((fst' k one).map nD))), some (.v (.lst ((fst' k (oth n k one)).map nD))), some (.v (tt (bothP n k T one))), some (.v (tt (lowP n k T one))), some (.o ((fst' k one ++ oth n k one).map nD)), some (.v (.int ((i : Nat) : Int))), r16, r17, r18, none, none, none, none, none, none, none, none] (by omega) ⟨r16, r17, r18, fun z => by omega, rfl⟩ (by
    rintro j e hj ⟨r16, r17, r18, _, rfl⟩
    exact ⟨_, _, rfl, st16a s sc n T h2 h6 hD bT r4 r5 k k1 kn one hone i j hi hj r17 r18, _, _, _, fun _ => ⟨_, _, rfl, rfl⟩, rfl⟩)
  obtain ⟨d17, d18, rfl, rfl⟩ := hz (by omega)
  rw [← rng_range'] at h
  refine ⟨q16, d17, d18, ?_⟩
  rw [s_sFor, iR1_nat (n := n) (e' := [some (.v sc), some (Rd.v s), some (.v (.int (n : Int))), some (.v (tt T)), r4, r5, some (.v (.int ((k : Nat) : Int))), some (.v (.lst ((List.range' k (n - k)).map nD))), some (.v (.lst ((one).map nD))), some (.v (.lst ((oth n k one).map nD))), some (.v (.lst ((fst' k one).map nD))), some (.v (.lst ((fst' k (oth n k one)).map nD))), some (.v (tt (bothP n k T one))), some (.v (tt (lowP n k T one))), some (.o ((fst' k one ++ oth n k one).map nD)), some (.v (.int ((i : Nat) : Int))), r16, r17, r18, none, none, none, none, none, none, none, none]) (by
    generalize bothP n k T one = BB
    generalize lowP n k T one = BL
    simp) (by omega)]
  exact h
theorem st16 (s : Rd) (sc : D) (n : Nat) (T : List (List Int)) (h2 : 2 ≤ n) (h6 : n ≤ 6) (hD : Dst n T) (bT : ∀ i j, i < n → j < n → at2 T i j ≤ 100) (r4 r5 : Option Vl) (k : Nat) (k1 : 1 ≤ k) (kn : k < n) (one : List Nat) (hone : one.Sublist (List.range' k (n - k))) : ∃ r15 r16 d17 d18, (sFor (iR1 (eV 2)) (gN 15) (sFor (iR1 (eV 2)) (gN 16) (sSeq (sSet 17 (eIxP 14 (eV 15))) (sSeq (sSet 18 (eIxP 14 (eV 16))) (sSeq (sIf (tOr (tB (e2 oLt (e2 oIx (eIxP 12 (eV 15)) (eV 16)) (e2 oIx (eIxP 3 (eV 17)) (eV 18)))) (tB (e2 oGt (e2 oIx (eIxP 13 (eV 15)) (eV 16)) (e2 oIx (eIxP 3 (eV 17)) (eV 18))))) (sRet (eC (.bl false))) sNil) (sIf (tAnd (tOr (tAnd (tB (e2 oIn (eV 17) (eP 10))) (tB (e2 oIn (eV 18) (eP 10)))) (tAnd (tB (e2 oIn (eV 17) (eP 11))) (tB (e2 oIn (eV 18) (eP 11))))) (tOr (tB (e2 oNe (e2 oIx (eIxP 12 (eV 15)) (eV 16)) (e2 oIx (eIxP 3 (eV 17)) (eV 18)))) (tB (e2 oNe (e2 oIx (eIxP 13 (eV 15)) (eV 16)) (e2 oIx (eIxP 3 (eV 17)) (eV 18)))))) (sRet (eC (.bl false))) sNil)))))) [some (.v sc), some (Rd.v s), some (.v (.int (n : Int))), some (.v (tt T)), r4, r5, some (.v (.int ((k : Nat) : Int))), some (.v (.lst ((List.range' k (n - k)).map nD))), some (.v (.lst ((one).map nD))), some (.v (.lst ((oth n k one).map nD))), some (.v (.lst ((fst' k one).map nD))), some (.v (.lst ((fst' k (oth n k one)).map nD))), some (.v (tt (bothP n k T one))), some (.v (tt (lowP n k T one))), some (.o ((fst' k one ++ oth n k one).map nD)), none, none, none, none, none, none, none, none, none, none, none, none] = .nxt [some (.v sc), some (Rd.v s), some (.v (.int (n : Int))), some (.v (tt T)), r4, r5, some (.v (.int ((k : Nat) : Int))), some (.v (.lst ((List.range' k (n - k)).map nD))), some (.v (.lst ((one).map nD))), some (.v (.lst ((oth n k one).map nD))), some (.v (.lst ((fst' k one).map nD))), some (.v (.lst ((fst' k (oth n k one)).map nD))), some (.v (tt (bothP n k T one))), some (.v (tt (lowP n k T one))), some (.o ((fst' k one ++ oth n k one).map nD)), r15, r16, some (.v d17), some (.v d18), none, none, none, none, none, none, none, none] := by
  obtain ⟨e', h, q15, q16, q17, q18, hz, rfl⟩ := forGoR (g := gN 15) (b := (sFor (iR1 (eV 2)) (gN 16) (sSeq (sSet 17 (eIxP 14 (eV 15))) (sSeq (sSet 18 (eIxP 14 (eV 16))) (sSeq (sIf (tOr (tB (e2 oLt (e2 oIx (eIxP 12 (eV 15)) (eV 16)) (e2 oIx (eIxP 3 (eV 17)) (eV 18)))) (tB (e2 oGt (e2 oIx (eIxP 13 (eV 15)) (eV 16)) (e2 oIx (eIxP 3 (eV 17)) (eV 18))))) (sRet (eC (.bl false))) sNil) (sIf (tAnd (tOr (tAnd (tB (e2 oIn (eV 17) (eP 10))) (tB (e2 oIn (eV 18) (eP 10)))) (tAnd (tB (e2 oIn (eV 17) (eP 11))) (tB (e2 oIn (eV 18) (eP 11))))) (tOr (tB (e2 oNe (e2 oIx (eIxP 12 (eV 15)) (eV 16)) (e2 oIx (eIxP 3 (eV 17)) (eV 18)))) (tB (e2 oNe (e2 oIx (eIxP 13 (eV 15)) (eV 16)) (e2 oIx (eIxP 3 (eV 17)) (eV 18)))))) (sRet (eC (.bl false))) sNil)))))) (fun j e => ∃ r15 r16 r17 r18, (0 < j → ∃ d17 d18, r17 = some (.v d17) ∧ r18 = some (.v d18)) ∧ e = [some (.v sc), some (Rd.v s), some (.v (.int (n : Int))), some (.v (tt T)), r4, r5, some (.v (.int ((k : Nat) : Int))), some (.v (.lst ((List.range' k (n - k)).map nD))), some (.v (.lst ((one).map nD))), some (.v (.lst ((oth n k one).map nD))), some (.v (.lst ((fst' k one).map nD))), some (.v (.lst ((fst' k (oth n k one)).map nD))), some (.v (tt (bothP n k T one))), some (.v (tt (lowP n k T one))), some (.o ((fst' k one ++ oth n k one).map nD)), r15, r16, r17, r18, none, none, none, none, none, none, none, none]) n n 0 [some (.v sc), some (Rd.v s), some (.v (.int (n : Int))), some (.v (tt T)), r4, r5, some (.v (.int ((k : Nat) : Int))), some (.v (.lst ((List.range' k (n - k)).map nD))), some (.v (.lst ((one).map nD))), some (.v (.lst ((oth n k one).map nD))), some (.v (.lst ((fst' k one).map nD))), some (.v (.lst ((fst' k (oth n k one)).map nD))), some (.v (tt (bothP n k T one))), some (.v (tt (lowP n k T one))), some (.o ((fst' k one ++ oth n k one).map nD)), none, none, none, none, none, none, none, none, none, none, none, none] (by omega) ⟨none, none, none, none, fun z => by omega, rfl⟩ (by
    rintro j e hj ⟨r15, r16, r17, r18, _, rfl⟩
    obtain ⟨r16', d17, d18, hh⟩ := st16b s sc n T h2 h6 hD bT r4 r5 k k1 kn one hone j hj r16 r17 r18
    exact ⟨_, _, rfl, hh, _, _, _, _, fun _ => ⟨_, _, rfl, rfl⟩, rfl⟩)
  obtain ⟨d17, d18, rfl, rfl⟩ := hz (by omega)
  rw [← rng_range'] at h
  refine ⟨q15, q16, d17, d18, ?_⟩
  rw [s_sFor, iR1_nat (n := n) (e' := [some (.v sc), some (Rd.v s), some (.v (.int (n : Int))), some (.v (tt T)), r4, r5, some (.v (.int ((k : Nat) : Int))), some (.v (.lst ((List.range' k (n - k)).map nD))), some (.v (.lst ((one).map nD))), some (.v (.lst ((oth n k one).map nD))), some (.v (.lst ((fst' k one).map nD))), some (.v (.lst ((fst' k (oth n k one)).map nD))), some (.v (tt (bothP n k T one))), some (.v (tt (lowP n k T one))), some (.o ((fst' k one ++ oth n k one).map nD)), none, none, none, none, none, none, none, none, none, none, none, none]) (by
    generalize bothP n k T one = BB
    generalize lowP n k T one = BL
    simp) (by omega)]
  exact h
end Fx
end

section
set_option linter.all false
set_option maxRecDepth 10000
namespace Fx
theorem sIf_t {t : M Bool} {a b : C} {e e1 : En} (h : t e = .ok true e1) : sIf t a b e = a e1 := by
  unfold sIf
  rw [h]
  rfl
theorem sIf_f {t : M Bool} {a b : C} {e e1 : En} (h : t e = .ok false e1) : sIf t a b e = b e1 := by
  unfold sIf
  rw [h]
  rfl
theorem both_first {n k : Nat} {T : List (List Int)} {one : List Nat} (hD : Dst n T) (pr : Prt n k one (oth n k one)) : mv (bothP n k T one) (List.range (k + one.length)) = mv T (fst' k one) := by
  have s1 := mv_sq (bothP n k T one) (List.range (k + one.length))
  have s2 := mv_sq T (fst' k one)
  rw [fst_len] at s2
  rw [List.length_range] at s1
  refine sq_ext s1 s2 fun i hi j hj => ?_
  rw [mvr_at hi hj]
  exact glu_ll s2 hi hj
theorem turn_back {n k : Nat} {T : List (List Int)} {one bs : List Nat} (hD : Dst n T) (h8 : n ≤ 8) (pr : Prt n k one (oth n k one)) (hl : bs.length = n) (hb : ∀ i, i < n → bs.getD i 0 < n ∧ (fst' k (oth n k one) ++ one).getD (bs.getD i 0) 0 = (fst' k one ++ oth n k one).getD i 0) : mv (turnP n k T one) bs = bothP n k T one := by
  have pl := pr.len
  have shr := pr.shr (T := T) hD h8
  have sB : Sq n (bothP n k T one) := by
    have := glu_sq (f := stepV (mv T (fst' k one)) (mv T (fst' k (oth n k one))) k) (k := k) shr.dA.tab.sq shr.dO.tab.sq (by omega)
    rw [show k + one.length + (k + (oth n k one).length) - k = n by omega] at this
    exact this
  have s1 := mv_sq (turnP n k T one) bs
  rw [hl] at s1
  refine sq_ext s1 sB fun i hi j hj => ?_
  obtain ⟨b1, b2⟩ := hb i hi
  obtain ⟨b3, b4⟩ := hb j hj
  rw [mv_at (by omega) (by omega)]
  have w1 := WV_glu pr hD hi hj
  have w2 := WV_glu pr.swap hD b1 b3
  rw [b2, b4, WV_swap] at w2
  exact w2.trans w1.symm
theorem both_dst {n k : Nat} {T : List (List Int)} {one : List Nat} (hD : Dst n T) (h8 : n ≤ 8) (bT : ∀ i j, i < n → j < n → at2 T i j ≤ 100) (pr : Prt n k one (oth n k one)) : Dst n (bothP n k T one) := by
  have pl := pr.len
  have shr := pr.shr (T := T) hD h8
  have := glu_dst shr (fun i j hi hj => by
    rw [mv_at (by rw [fst_len]; exact hi) (by rw [fst_len]; exact hj)]
    have := bT _ _ (gD_lt pr.fst_lt (by rw [fst_len]; exact hi)) (gD_lt pr.fst_lt (by rw [fst_len]; exact hj))
    omega) (fun i j hi hj => by
    rw [mv_at (by rw [fst_len]; exact hi) (by rw [fst_len]; exact hj)]
    have := bT _ _ (gD_lt pr.swap.fst_lt (by rw [fst_len]; exact hi)) (gD_lt pr.swap.fst_lt (by rw [fst_len]; exact hj))
    omega)
  rw [show k + one.length + (k + (oth n k one).length) - k = n by omega] at this
  exact this
theorem st17 (s : Rd) (sc : D) (n : Nat) (T : List (List Int)) (h2 : 2 ≤ n) (h6 : n ≤ 6) (hD : Dst n T) (bT : ∀ i j, i < n → j < n → at2 T i j ≤ 100) (r4 r5 : Option Vl) (k : Nat) (k1 : 1 ≤ k) (kn : k < n) (one : List Nat) (hone : one.Sublist (List.range' k (n - k))) (r15 r16 : Option Vl) (d17 d18 : D) : (sIf (tOr (tB (e2 oNe (eCall G.F_distance_paper [.va (eV 12)]) (eTup (eCons (eC (.str "distances")) eNil)))) (tB (e2 oNe (eCall G.F__law_part [.va (eV 12), .va (eLr1 (e1 oLen (eP 10)))]) (eCall G.F__law_part [.va (eV 3), .va (eV 10)])))) (sRet (eC (.bl false))) sNil) [some (.v sc), some (Rd.v s), some (.v (.int (n : Int))), some (.v (tt T)), r4, r5, some (.v (.int ((k : Nat) : Int))), some (.v (.lst ((List.range' k (n - k)).map nD))), some (.v (.lst ((one).map nD))), some (.v (.lst ((oth n k one).map nD))), some (.v (.lst ((fst' k one).map nD))), some (.v (.lst ((fst' k (oth n k one)).map nD))), some (.v (tt (bothP n k T one))), some (.v (tt (lowP n k T one))), some (.o ((fst' k one ++ oth n k one).map nD)), r15, r16, some (.v d17), some (.v d18), none, none, none, none, none, none, none, none] = .nxt [some (.v sc), some (Rd.v s), some (.v (.int (n : Int))), some (.v (tt T)), r4, r5, some (.v (.int ((k : Nat) : Int))), some (.v (.lst ((List.range' k (n - k)).map nD))), some (.v (.lst ((one).map nD))), some (.v (.lst ((oth n k one).map nD))), some (.v (.lst ((fst' k one).map nD))), some (.v (.lst ((fst' k (oth n k one)).map nD))), some (.v (tt (bothP n k T one))), some (.v (tt (lowP n k T one))), some (.o ((fst' k one ++ oth n k one).map nD)), r15, r16, some (.v d17), some (.v d18), none, none, none, none, none, none, none, none] := by
  have hT := hD.tab
  have jT := hT.tab (by omega) (by omega) (by omega)
  have lT := hT.sq.len
  have sT := hT.sqr
  have pr := oth_prt k1 (show k ≤ n by omega) hone
  have pl := pr.len
  have p1 := law_part_ok (o := fst' k one) hT.sq (by omega) (by rw [fst_len]; omega) pr.fst_lt
  rw [li_eq] at p1
  have dB := both_dst hD (by omega) bT pr
  have p2 := law_part_ok (o := List.range (k + one.length)) dB.tab.sq (by omega) (by simp; omega) (fun x hx => by rw [List.mem_range] at hx; omega)
  rw [both_first hD pr, li_eq, ← rng0_nD] at p2
  have dp := distance_paper_ok (dB.tab.tab (by omega) (by omega) (by omega)) dB.tab.sq.len
  have dd : dpD (bothP n k T one) n = .tup [.str "distances"] := by
    unfold dpD
    rw [faults_nil dB]
    rfl
  rw [dd] at dp
  have lf : ((fst' k one).map nD).length = k + one.length := by rw [List.length_map, fst_len]
  have rg := rgOk_nat0 (b := k + one.length) (by omega)
  have et : ((k + one.length : Nat) : Int).toNat = k + one.length := by omega
  generalize (fst' k one ++ oth n k one).map nD = R6 at *
  generalize bothP n k T one = BB at *
  generalize lowP n k T one = BL at *
  generalize (List.range' k (n - k)).map nD = R at *
  generalize mv T (fst' k one) = M1 at *
  generalize mv T (fst' k (oth n k one)) = M2 at *
  generalize (fst' k one).map nD = R4 at *
  generalize (fst' k (oth n k one)).map nD = R5 at *
  generalize (oth n k one).map nD = R2 at *
  generalize one.map nD = R1 at *
  generalize k + one.length = kl at *
  simp [dp, lf, rg, et, p1, p2, D.eq, D.eqs, isStr1, isStr]
theorem st18 (s : Rd) (sc : D) (n : Nat) (T : List (List Int)) (h2 : 2 ≤ n) (h6 : n ≤ 6) (hD : Dst n T) (bT : ∀ i j, i < n → j < n → at2 T i j ≤ 100) (r4 r5 : Option Vl) (k : Nat) (k1 : 1 ≤ k) (kn : k < n) (one : List Nat) (hone : one.Sublist (List.range' k (n - k))) (r15 r16 : Option Vl) (d17 d18 : D) : (sSet 19 (eCall G.F_glued [.va (eCall G.F__law_part [.va (eV 3), .va (eV 11)]), .va (eCall G.F__law_part [.va (eV 3), .va (eV 10)]), .va (eV 6)])) [some (.v sc), some (Rd.v s), some (.v (.int (n : Int))), some (.v (tt T)), r4, r5, some (.v (.int ((k : Nat) : Int))), some (.v (.lst ((List.range' k (n - k)).map nD))), some (.v (.lst ((one).map nD))), some (.v (.lst ((oth n k one).map nD))), some (.v (.lst ((fst' k one).map nD))), some (.v (.lst ((fst' k (oth n k one)).map nD))), some (.v (tt (bothP n k T one))), some (.v (tt (lowP n k T one))), some (.o ((fst' k one ++ oth n k one).map nD)), r15, r16, some (.v d17), some (.v d18), none, none, none, none, none, none, none, none] = .nxt [some (.v sc), some (Rd.v s), some (.v (.int (n : Int))), some (.v (tt T)), r4, r5, some (.v (.int ((k : Nat) : Int))), some (.v (.lst ((List.range' k (n - k)).map nD))), some (.v (.lst ((one).map nD))), some (.v (.lst ((oth n k one).map nD))), some (.v (.lst ((fst' k one).map nD))), some (.v (.lst ((fst' k (oth n k one)).map nD))), some (.v (tt (bothP n k T one))), some (.v (tt (lowP n k T one))), some (.o ((fst' k one ++ oth n k one).map nD)), r15, r16, some (.v d17), some (.v d18), some (.v (tt (turnP n k T one))), none, none, none, none, none, none, none] := by
  have hT := hD.tab
  have jT := hT.tab (by omega) (by omega) (by omega)
  have lT := hT.sq.len
  have sT := hT.sqr
  have pr := oth_prt k1 (show k ≤ n by omega) hone
  have pl := pr.len
  have p1 := law_part_ok (o := fst' k one) hT.sq (by omega) (by rw [fst_len]; omega) pr.fst_lt
  have p2 := law_part_ok (o := fst' k (oth n k one)) hT.sq (by omega) (by rw [fst_len]; omega) pr.swap.fst_lt
  rw [li_eq] at p1 p2
  have g := glued_ok (pr.swap.shr hD (by omega))
  change G.F_glued _ = .ok (.v (tt (turnP n k T one))) [] at g
  generalize (fst' k one ++ oth n k one).map nD = R6 at *
  generalize bothP n k T one = BB at *
  generalize lowP n k T one = BL at *
  generalize turnP n k T one = BT at *
  generalize (List.range' k (n - k)).map nD = R at *
  generalize mv T (fst' k one) = M1 at *
  generalize mv T (fst' k (oth n k one)) = M2 at *
  generalize (fst' k one).map nD = R4 at *
  generalize (fst' k (oth n k one)).map nD = R5 at *
  generalize (oth n k one).map nD = R2 at *
  generalize one.map nD = R1 at *
  simp [p1, p2, g]
theorem st19 (s : Rd) (sc : D) (n : Nat) (T : List (List Int)) (h2 : 2 ≤ n) (h6 : n ≤ 6) (hD : Dst n T) (bT : ∀ i j, i < n → j < n → at2 T i j ≤ 100) (r4 r5 : Option Vl) (k : Nat) (k1 : 1 ≤ k) (kn : k < n) (one : List Nat) (hone : one.Sublist (List.range' k (n - k))) (r15 r16 : Option Vl) (d17 d18 : D) : (sSet 20 (e2 oAdd (eV 11) (eV 8))) [some (.v sc), some (Rd.v s), some (.v (.int (n : Int))), some (.v (tt T)), r4, r5, some (.v (.int ((k : Nat) : Int))), some (.v (.lst ((List.range' k (n - k)).map nD))), some (.v (.lst ((one).map nD))), some (.v (.lst ((oth n k one).map nD))), some (.v (.lst ((fst' k one).map nD))), some (.v (.lst ((fst' k (oth n k one)).map nD))), some (.v (tt (bothP n k T one))), some (.v (tt (lowP n k T one))), some (.o ((fst' k one ++ oth n k one).map nD)), r15, r16, some (.v d17), some (.v d18), some (.v (tt (turnP n k T one))), none, none, none, none, none, none, none] = .nxt [some (.v sc), some (Rd.v s), some (.v (.int (n : Int))), some (.v (tt T)), r4, r5, some (.v (.int ((k : Nat) : Int))), some (.v (.lst ((List.range' k (n - k)).map nD))), some (.v (.lst ((one).map nD))), some (.v (.lst ((oth n k one).map nD))), some (.v (.lst ((fst' k one).map nD))), some (.v (.lst ((fst' k (oth n k one)).map nD))), some (.v (tt (bothP n k T one))), some (.v (tt (lowP n k T one))), some (.o ((fst' k one ++ oth n k one).map nD)), r15, r16, some (.v d17), some (.v d18), some (.v (tt (turnP n k T one))), some (.o ((fst' k (oth n k one) ++ one).map nD)), none, none, none, none, none, none] := by
  have pr := oth_prt k1 (show k ≤ n by omega) hone
  have pl := pr.len
  have hl : ((fst' k (oth n k one)).map nD).length + (one.map nD).length ≤ lim := by
    rw [List.length_map, List.length_map, fst_len]
    unfold lim
    omega
  rw [List.map_append (l₁ := fst' k (oth n k one))]
  generalize (fst' k one ++ oth n k one).map nD = R6 at *
  generalize bothP n k T one = BB at *
  generalize lowP n k T one = BL at *
  generalize turnP n k T one = BT at *
  generalize (List.range' k (n - k)).map nD = R at *
  generalize mv T (fst' k one) = M1 at *
  generalize mv T (fst' k (oth n k one)) = M2 at *
  generalize (fst' k one).map nD = R4 at *
  generalize (fst' k (oth n k one)).map nD = R5 at *
  generalize (oth n k one).map nD = R2 at *
  generalize one.map nD = R1 at *
  simp [oAdd, hl]
theorem st20 (s : Rd) (sc : D) (n : Nat) (T : List (List Int)) (h2 : 2 ≤ n) (h6 : n ≤ 6) (hD : Dst n T) (bT : ∀ i j, i < n → j < n → at2 T i j ≤ 100) (r4 r5 : Option Vl) (k : Nat) (k1 : 1 ≤ k) (kn : k < n) (one : List Nat) (hone : one.Sublist (List.range' k (n - k))) (r15 r16 : Option Vl) (d17 d18 : D) : ∃ (bs : List Nat) (r20 : Option Vl), (bs.length = n ∧ ∀ i, i < n → bs.getD i 0 < n ∧ (fst' k (oth n k one) ++ one).getD (bs.getD i 0) 0 = (fst' k one ++ oth n k one).getD i 0) ∧ (sSet 21 (eComp [17] (iL (eV 14)) (gN 17) tYes (eMetL fIx (eV 20) (eV 17)))) [some (.v sc), some (Rd.v s), some (.v (.int (n : Int))), some (.v (tt T)), r4, r5, some (.v (.int ((k : Nat) : Int))), some (.v (.lst ((List.range' k (n - k)).map nD))), some (.v (.lst ((one).map nD))), some (.v (.lst ((oth n k one).map nD))), some (.v (.lst ((fst' k one).map nD))), some (.v (.lst ((fst' k (oth n k one)).map nD))), some (.v (tt (bothP n k T one))), some (.v (tt (lowP n k T one))), some (.o ((fst' k one ++ oth n k one).map nD)), r15, r16, some (.v d17), some (.v d18), some (.v (tt (turnP n k T one))), some (.o ((fst' k (oth n k one) ++ one).map nD)), none, none, none, none, none, none] = .nxt [some (.v sc), some (Rd.v s), some (.v (.int (n : Int))), some (.v (tt T)), r4, r5, some (.v (.int ((k : Nat) : Int))), some (.v (.lst ((List.range' k (n - k)).map nD))), some (.v (.lst ((one).map nD))), some (.v (.lst ((oth n k one).map nD))), some (.v (.lst ((fst' k one).map nD))), some (.v (.lst ((fst' k (oth n k one)).map nD))), some (.v (tt (bothP n k T one))), some (.v (tt (lowP n k T one))), some (.v (.lst ((fst' k one ++ oth n k one).map nD))), r15, r16, some (.v d17), some (.v d18), some (.v (tt (turnP n k T one))), r20, some (.o ((bs).map nD)), none, none, none, none, none] := by
  have pr := oth_prt k1 (show k ≤ n by omega) hone
  have pl := pr.len
  have nl : (fst' k one ++ oth n k one).length = n := by rw [List.length_append, fst_len]; omega
  have ol : (fst' k (oth n k one) ++ one).length = n := by rw [List.length_append, fst_len]; omega
  have mm : ∀ x, x ∈ fst' k one ++ oth n k one → x ∈ fst' k (oth n k one) ++ one := fun x hx => by
    rw [List.mem_append, mem_fst] at hx ⊢
    rcases hx with (q | q) | q
    · exact .inl (.inl q)
    · exact .inr q
    · exact .inl (.inr q)
  obtain ⟨acc, e2, hc, bs, r20, hr, rfl, hl, hb, rfl⟩ := eCompJV (k := 17) (d0 := d17) (it := iL (eV 14)) (x := eMetL fIx (eV 20) (eV 17)) (e := [some (.v sc), some (Rd.v s), some (.v (.int (n : Int))), some (.v (tt T)), r4, r5, some (.v (.int ((k : Nat) : Int))), some (.v (.lst ((List.range' k (n - k)).map nD))), some (.v (.lst ((one).map nD))), some (.v (.lst ((oth n k one).map nD))), some (.v (.lst ((fst' k one).map nD))), some (.v (.lst ((fst' k (oth n k one)).map nD))), some (.v (tt (bothP n k T one))), some (.v (tt (lowP n k T one))), some (.o ((fst' k one ++ oth n k one).map nD)), r15, r16, some (.v d17), some (.v d18), some (.v (tt (turnP n k T one))), some (.o ((fst' k (oth n k one) ++ one).map nD)), none, none, none, none, none, none]) (e1 := [some (.v sc), some (Rd.v s), some (.v (.int (n : Int))), some (.v (tt T)), r4, r5, some (.v (.int ((k : Nat) : Int))), some (.v (.lst ((List.range' k (n - k)).map nD))), some (.v (.lst ((one).map nD))), some (.v (.lst ((oth n k one).map nD))), some (.v (.lst ((fst' k one).map nD))), some (.v (.lst ((fst' k (oth n k one)).map nD))), some (.v (tt (bothP n k T one))), some (.v (tt (lowP n k T one))), some (.v (.lst ((fst' k one ++ oth n k one).map nD))), r15, r16, some (.v d17), some (.v d18), some (.v (tt (turnP n k T one))), some (.o ((fst' k (oth n k one) ++ one).map nD)), none, none, none, none, none, none]) (l := (fst' k one ++ oth n k one).map nD)
    (fun m acc e => ∃ (bs : List Nat) (r20 : Option Vl), (r20 = some (.o ((fst' k (oth n k one) ++ one).map nD)) ∨ r20 = some (.v (.lst ((fst' k (oth n k one) ++ one).map nD)))) ∧ acc = bs.map nD ∧ bs.length = m ∧ (∀ i, i < m → bs.getD i 0 < n ∧ (fst' k (oth n k one) ++ one).getD (bs.getD i 0) 0 = (fst' k one ++ oth n k one).getD i 0) ∧ e = [some (.v sc), some (Rd.v s), some (.v (.int (n : Int))), some (.v (tt T)), r4, r5, some (.v (.int ((k : Nat) : Int))), some (.v (.lst ((List.range' k (n - k)).map nD))), some (.v (.lst ((one).map nD))), some (.v (.lst ((oth n k one).map nD))), some (.v (.lst ((fst' k one).map nD))), some (.v (.lst ((fst' k (oth n k one)).map nD))), some (.v (tt (bothP n k T one))), some (.v (tt (lowP n k T one))), some (.v (.lst ((fst' k one ++ oth n k one).map nD))), r15, r16, none, some (.v d18), some (.v (tt (turnP n k T one))), r20, none, none, none, none, none, none])
    (by
      generalize bothP n k T one = BB 
      generalize lowP n k T one = BL 
      generalize turnP n k T one = BT 
      simp) (by rw [List.length_map, nl]; unfold lim; omega) rfl ⟨[], _, .inl rfl, rfl, rfl, fun i hi => by omega, rfl⟩ (by
      rintro m acc e d hm ⟨bs, r20, hr, rfl, hl, hb, rfl⟩ hd
      rw [List.length_map, nl] at hm
      rw [List.getElem?_map, get_of (show m < (fst' k one ++ oth n k one).length by omega) 0] at hd
      obtain ⟨b, b1, b2, b3⟩ := fIx_nD (fst' k (oth n k one) ++ one) ((fst' k one ++ oth n k one).getD m 0) (mm _ (gD_mem (by omega)))
      rw [ol] at b1
      have hd' : d = .int (((fst' k one ++ oth n k one).getD m 0 : Nat) : Int) := by
        simp only [Option.map_some, Option.some.injEq] at hd
        exact hd.symm
      refine ⟨.v (.int (b : Int)), .int (b : Int), [some (.v sc), some (Rd.v s), some (.v (.int (n : Int))), some (.v (tt T)), r4, r5, some (.v (.int ((k : Nat) : Int))), some (.v (.lst ((List.range' k (n - k)).map nD))), some (.v (.lst ((one).map nD))), some (.v (.lst ((oth n k one).map nD))), some (.v (.lst ((fst' k one).map nD))), some (.v (.lst ((fst' k (oth n k one)).map nD))), some (.v (tt (bothP n k T one))), some (.v (tt (lowP n k T one))), some (.v (.lst ((fst' k one ++ oth n k one).map nD))), r15, r16, some (.v d), some (.v d18), some (.v (tt (turnP n k T one))), some (.v (.lst ((fst' k (oth n k one) ++ one).map nD))), none, none, none, none, none, none], ?_, rfl, bs ++ [b], _, .inr rfl, by simp [nD], by simp [hl], fun i hi => ?_, rfl⟩
      · subst hd'
        clear hb mm nl ol hd b3
        generalize (fst' k one ++ oth n k one).getD m 0 = xm at *
        generalize (fst' k one ++ oth n k one).map nD = R6 at *
        generalize (fst' k (oth n k one) ++ one).map nD = R7 at *
        generalize (fst' k (oth n k one)).map nD = R5 at *
        generalize bothP n k T one = BB at *
        generalize lowP n k T one = BL at *
        generalize turnP n k T one = BT at *
        rcases hr with rfl | rfl <;> simp [eMetL, kMetL, kMet, Vl.lst?, D.dep, b2, Vl.d]
      · by_cases q : i < m
        · have e : (bs ++ [b]).getD i 0 = bs.getD i 0 := by rw [getD_app, if_pos (by omega)]
          rw [e]; exact hb i q
        · have qi : i = m := by omega
          subst qi
          have e : (bs ++ [b]).getD i 0 = b := by rw [getD_app, if_neg (by omega), if_pos hl.symm]
          rw [e]
          exact ⟨b1, b3⟩)
  rw [List.length_map, nl] at hl hb
  refine ⟨bs, r20, ⟨hl, hb⟩, ?_⟩
  clear hb mm nl ol hr hl
  simp only [List.set_cons_succ, List.set_cons_zero] at hc
  generalize eComp [17] (iL (eV 14)) (gN 17) tYes (eMetL fIx (eV 20) (eV 17)) = Y at hc ⊢
  generalize (fst' k one ++ oth n k one).map nD = R6 at *
  generalize (fst' k (oth n k one) ++ one).map nD = R7 at *
  generalize bothP n k T one = BB at *
  generalize lowP n k T one = BL at *
  generalize turnP n k T one = BT at *
  generalize (List.range' k (n - k)).map nD = R at *
  generalize mv T (fst' k one) = M1 at *
  generalize mv T (fst' k (oth n k one)) = M2 at *
  generalize (fst' k one).map nD = R4 at *
  generalize (fst' k (oth n k one)).map nD = R5 at *
  generalize (oth n k one).map nD = R2 at *
  generalize one.map nD = R1 at *
  generalize bs.map nD = R8 at *
  simp [hc]
theorem st21 (s : Rd) (sc : D) (n : Nat) (T : List (List Int)) (h2 : 2 ≤ n) (h6 : n ≤ 6) (hD : Dst n T) (bT : ∀ i j, i < n → j < n → at2 T i j ≤ 100) (r4 r5 : Option Vl) (k : Nat) (k1 : 1 ≤ k) (kn : k < n) (one : List Nat) (hone : one.Sublist (List.range' k (n - k))) (r15 r16 : Option Vl) (d17 d18 : D) (bs : List Nat) (r20 : Option Vl) (hl : bs.length = n) (hb : ∀ i, i < n → bs.getD i 0 < n ∧ (fst' k (oth n k one) ++ one).getD (bs.getD i 0) 0 = (fst' k one ++ oth n k one).getD i 0) : (sIf (tB (e2 oNe (eCall G.F__law_part [.va (eV 19), .va (eV 21)]) (eV 12))) (sRet (eC (.bl false))) sNil) [some (.v sc), some (Rd.v s), some (.v (.int (n : Int))), some (.v (tt T)), r4, r5, some (.v (.int ((k : Nat) : Int))), some (.v (.lst ((List.range' k (n - k)).map nD))), some (.v (.lst ((one).map nD))), some (.v (.lst ((oth n k one).map nD))), some (.v (.lst ((fst' k one).map nD))), some (.v (.lst ((fst' k (oth n k one)).map nD))), some (.v (tt (bothP n k T one))), some (.v (tt (lowP n k T one))), some (.v (.lst ((fst' k one ++ oth n k one).map nD))), r15, r16, some (.v d17), some (.v d18), some (.v (tt (turnP n k T one))), r20, some (.o ((bs).map nD)), none, none, none, none, none] = .nxt [some (.v sc), some (Rd.v s), some (.v (.int (n : Int))), some (.v (tt T)), r4, r5, some (.v (.int ((k : Nat) : Int))), some (.v (.lst ((List.range' k (n - k)).map nD))), some (.v (.lst ((one).map nD))), some (.v (.lst ((oth n k one).map nD))), some (.v (.lst ((fst' k one).map nD))), some (.v (.lst ((fst' k (oth n k one)).map nD))), some (.v (tt (bothP n k T one))), some (.v (tt (lowP n k T one))), some (.v (.lst ((fst' k one ++ oth n k one).map nD))), r15, r16, some (.v d17), some (.v d18), some (.v (tt (turnP n k T one))), r20, some (.v (.lst ((bs).map nD))), none, none, none, none, none] := by
  have hT := hD.tab
  have jT := hT.tab (by omega) (by omega) (by omega)
  have lT := hT.sq.len
  have sT := hT.sqr
  have pr := oth_prt k1 (show k ≤ n by omega) hone
  have pl := pr.len
  have sT : Sq n (turnP n k T one) := by
    have shr := pr.swap.shr (T := T) hD (by omega)
    have := glu_sq (f := stepV (mv T (fst' k (oth n k one))) (mv T (fst' k one)) k) (k := k) shr.dA.tab.sq shr.dO.tab.sq (by omega)
    rw [show k + (oth n k one).length + (k + one.length) - k = n by omega] at this
    exact this
  have p := law_part_ok (o := bs) sT (by omega) (by omega) (fun x hx => by
    obtain ⟨i, hi, rfl⟩ := List.getElem_of_mem hx
    have := (hb i (by omega)).1
    simpa [List.getD, hi] using this)
  rw [turn_back hD (by omega) pr hl hb, li_eq] at p
  clear hb
  generalize (fst' k one ++ oth n k one).map nD = R6 at *
  generalize bothP n k T one = BB at *
  generalize lowP n k T one = BL at *
  generalize turnP n k T one = BT at *
  generalize (List.range' k (n - k)).map nD = R at *
  generalize mv T (fst' k one) = M1 at *
  generalize mv T (fst' k (oth n k one)) = M2 at *
  generalize (fst' k one).map nD = R4 at *
  generalize (fst' k (oth n k one)).map nD = R5 at *
  generalize (oth n k one).map nD = R2 at *
  generalize one.map nD = R1 at *
  generalize bs.map nD = R8 at *
  simp [p]
theorem st22 (s : Rd) (sc : D) (n : Nat) (T : List (List Int)) (h2 : 2 ≤ n) (h6 : n ≤ 6) (hD : Dst n T) (bT : ∀ i j, i < n → j < n → at2 T i j ≤ 100) (r4 r5 : Option Vl) (k : Nat) (k1 : 1 ≤ k) (kn : k < n) (r8 r9 r10 r11 r12 r13 r14 r15 r16 : Option Vl) (d17 d18 : D) (r19 r20 r21 : Option Vl) : (sSet 22 (eCall G.F__law_part [.va (eV 3), .va (eLr1 (eV 6))])) [some (.v sc), some (Rd.v s), some (.v (.int (n : Int))), some (.v (tt T)), r4, r5, some (.v (.int ((k : Nat) : Int))), some (.v (.lst ((List.range' k (n - k)).map nD))), r8, r9, r10, r11, r12, r13, r14, r15, r16, some (.v d17), some (.v d18), r19, r20, r21, none, none, none, none, none] = .nxt [some (.v sc), some (Rd.v s), some (.v (.int (n : Int))), some (.v (tt T)), r4, r5, some (.v (.int ((k : Nat) : Int))), some (.v (.lst ((List.range' k (n - k)).map nD))), r8, r9, r10, r11, r12, r13, r14, r15, r16, some (.v d17), some (.v d18), r19, r20, r21, some (.v (tt (mv T (List.range k)))), none, none, none, none] := by
  have hT := hD.tab
  have jT := hT.tab (by omega) (by omega) (by omega)
  have lT := hT.sq.len
  have sT := hT.sqr
  have h := law_part_ok (o := List.range k) hT.sq (by omega) (by simp; omega) (fun x hx => by rw [List.mem_range] at hx; omega)
  rw [li_eq, ← rng0_nD] at h
  have rg := rgOk_nat0 (b := k) (by omega)
  generalize mv T (List.range k) = M at *
  simp [rg, h]
theorem st23 (s : Rd) (sc : D) (n : Nat) (T : List (List Int)) (h2 : 2 ≤ n) (h6 : n ≤ 6) (hD : Dst n T) (bT : ∀ i j, i < n → j < n → at2 T i j ≤ 100) (r4 r5 : Option Vl) (k : Nat) (k1 : 1 ≤ k) (kn : k < n) (r8 r9 r10 r11 r12 r13 r14 r15 r16 : Option Vl) (d17 d18 : D) (r19 r20 r21 : Option Vl) : (sSet 23 (eComp [17] (iL (eV 7)) (gN 17) tYes (eCall G.F_with_point [.va (eV 22), .va (e1 oTuple (eComp [18] (iR1 (eV 6)) (gN 18) tYes (e2 oIx (eIxP 3 (eV 17)) (eV 18))))]))) [some (.v sc), some (Rd.v s), some (.v (.int (n : Int))), some (.v (tt T)), r4, r5, some (.v (.int ((k : Nat) : Int))), some (.v (.lst ((List.range' k (n - k)).map nD))), r8, r9, r10, r11, r12, r13, r14, r15, r16, some (.v d17), some (.v d18), r19, r20, r21, some (.v (tt (mv T (List.range k)))), none, none, none, none] = .nxt [some (.v sc), some (Rd.v s), some (.v (.int (n : Int))), some (.v (tt T)), r4, r5, some (.v (.int ((k : Nat) : Int))), some (.v (.lst ((List.range' k (n - k)).map nD))), r8, r9, r10, r11, r12, r13, r14, r15, r16, some (.v d17), some (.v d18), r19, r20, r21, some (.v (tt (mv T (List.range k)))), some (.o (((List.range' k (n - k)).map fun x => tt (wdT T k x)))), none, none, none] := by
  have hT := hD.tab
  have jT := hT.tab (by omega) (by omega) (by omega)
  have lT := hT.sq.len
  have sT := hT.sqr
  have dM := mvr_dst hD (show k ≤ n by omega)
  have jM := dM.tab.tab k1 (by omega) (by omega)
  have hc := eCompAV (k := 17) (d0 := d17) (it := iL (eV 7)) (x := eCall G.F_with_point [.va (eV 22), .va (e1 oTuple (eComp [18] (iR1 (eV 6)) (gN 18) tYes (e2 oIx (eIxP 3 (eV 17)) (eV 18))))]) (e := [some (.v sc), some (Rd.v s), some (.v (.int (n : Int))), some (.v (tt T)), r4, r5, some (.v (.int ((k : Nat) : Int))), some (.v (.lst ((List.range' k (n - k)).map nD))), r8, r9, r10, r11, r12, r13, r14, r15, r16, some (.v d17), some (.v d18), r19, r20, r21, some (.v (tt (mv T (List.range k)))), none, none, none, none]) (f1 := [some (.v sc), some (Rd.v s), some (.v (.int (n : Int))), some (.v (tt T)), r4, r5, some (.v (.int ((k : Nat) : Int))), some (.v (.lst ((List.range' k (n - k)).map nD))), r8, r9, r10, r11, r12, r13, r14, r15, r16, some (.v d17), some (.v d18), r19, r20, r21, some (.v (tt (mv T (List.range k)))), none, none, none, none]) (l := (List.range' k (n - k)).map nD)
    (fun c => tt (wdT T k c.nat)) (by simp) (by rw [List.length_map, List.length_range']; unfold lim; omega) rfl (fun d hd => by
      obtain ⟨x, hx, rfl⟩ := List.mem_map.mp hd
      rw [List.mem_range'_1] at hx
      have e1 : (nD x).nat = x := rfl
      rw [e1]
      have hw := with_point_ok jM dM (rowK_fit hD (show k ≤ x by omega) (show x < n by omega))
      change G.F_with_point _ = .ok (.v (tt (wdT T k x))) [] at hw
      have hc := eCompAV (k := 18) (d0 := d18) (it := iR1 (eV 6)) (x := e2 oIx (eIxP 3 (eV 17)) (eV 18)) (e := [some (.v sc), some (Rd.v s), some (.v (.int (n : Int))), some (.v (tt T)), r4, r5, some (.v (.int ((k : Nat) : Int))), some (.v (.lst ((List.range' k (n - k)).map nD))), r8, r9, r10, r11, r12, r13, r14, r15, r16, some (.v (nD x)), some (.v d18), r19, r20, r21, some (.v (tt (mv T (List.range k)))), none, none, none, none]) (f1 := [some (.v sc), some (Rd.v s), some (.v (.int (n : Int))), some (.v (tt T)), r4, r5, some (.v (.int ((k : Nat) : Int))), some (.v (.lst ((List.range' k (n - k)).map nD))), r8, r9, r10, r11, r12, r13, r14, r15, r16, some (.v (nD x)), some (.v d18), r19, r20, r21, some (.v (tt (mv T (List.range k)))), none, none, none, none]) (l := rng 0 k)
        (fun c => .int (at2 T x c.nat)) (iR1_nat (by simp) (by omega)) (by rw [rng_len]; unfold lim; omega) rfl (fun d hd => by
          obtain ⟨y, hy, rfl⟩ := rng_mem hd
          have e0 : (0 : Int) + (y : Int) = (y : Int) := by omega
          rw [e0]
          have hnat : (D.int (y : Int)).nat = y := rfl
          rw [hnat]
          obtain ⟨rt, t1, t2⟩ := ix_tt2 hT.sq (show x < n by omega) (show y < n by omega)
          generalize mv T (List.range k) = M at *
          generalize (List.range' k (n - k)).map nD = R at *
          unfold nD
          exact ⟨.v (.int (at2 T x y)), by simp [t1, t2], rfl⟩)
      rw [row_ints k (fun y => at2 T x y)] at hc
      have ho : oTuple (.o (((List.range k).map fun y => at2 T x y).map .int)) = some (.v (ti (rowK T k x))) := rfl
      refine ⟨.v (tt (wdT T k x)), ?_, rfl⟩
      generalize ((List.range k).map fun y => at2 T x y).map D.int = R1 at *
      generalize rowK T k x = rk at *
      generalize wdT T k x = wd at *
      generalize mv T (List.range k) = M at *
      generalize (List.range' k (n - k)).map nD = R at *
      generalize eComp [18] (iR1 (eV 6)) (gN 18) tYes (e2 oIx (eIxP 3 (eV 17)) (eV 18)) = Y at hc ⊢
      simp [hc, ho, hw, -tuple_o])
  have e : ((List.range' k (n - k)).map nD).map (fun c => tt (wdT T k c.nat)) = ((List.range' k (n - k)).map fun x => tt (wdT T k x)) := by
    rw [List.map_map]
    rfl
  rw [e] at hc
  generalize ((List.range' k (n - k)).map fun x => tt (wdT T k x)) = WW at *
  generalize mv T (List.range k) = M at *
  generalize (List.range' k (n - k)).map nD = R at *
  generalize eComp [17] (iL (eV 7)) (gN 17) tYes (eCall G.F_with_point [.va (eV 22), .va (e1 oTuple (eComp [18] (iR1 (eV 6)) (gN 18) tYes (e2 oIx (eIxP 3 (eV 17)) (eV 18))))]) = Y at hc ⊢
  simp [hc]
theorem st24a (s : Rd) (sc : D) (n : Nat) (T : List (List Int)) (h2 : 2 ≤ n) (h6 : n ≤ 6) (hD : Dst n T) (bT : ∀ i j, i < n → j < n → at2 T i j ≤ 100) (r4 r5 : Option Vl) (k : Nat) (k1 : 1 ≤ k) (kn : k < n) (r8 r9 r10 r11 r12 r13 r14 r15 r16 : Option Vl) (d17 d18 : D) (r19 r20 r21 r22 : Option Vl) : (sSet 24 (eIxP 23 (eC (.int 0)))) [some (.v sc), some (Rd.v s), some (.v (.int (n : Int))), some (.v (tt T)), r4, r5, some (.v (.int ((k : Nat) : Int))), some (.v (.lst ((List.range' k (n - k)).map nD))), r8, r9, r10, r11, r12, r13, r14, r15, r16, some (.v d17), some (.v d18), r19, r20, r21, r22, some (.o (((List.range' k (n - k)).map fun x => tt (wdT T k x)))), none, none, none] = .nxt [some (.v sc), some (Rd.v s), some (.v (.int (n : Int))), some (.v (tt T)), r4, r5, some (.v (.int ((k : Nat) : Int))), some (.v (.lst ((List.range' k (n - k)).map nD))), r8, r9, r10, r11, r12, r13, r14, r15, r16, some (.v d17), some (.v d18), r19, r20, r21, r22, some (.o (((List.range' k (n - k)).map fun x => tt (wdT T k x)))), some (.v (tt (grT T k 1))), none, none] := by
  have e : ((List.range' k (n - k)).map fun x => tt (wdT T k x)) = tt (wdT T k k) :: (List.range' (k + 1) (n - k - 1)).map fun x => tt (wdT T k x) := by
    rw [show n - k = (n - k - 1) + 1 by omega, List.range'_succ, List.map_cons, Nat.add_sub_cancel]
  rw [e, grT_one hD kn]
  have i0 : ∀ (x : D) (l : List D), oIx (.o (x :: l)) (.v (.int 0)) = some (.v x) := fun x l => by
    unfold oIx
    simp only [o_items]
    show Option.map Vl.v (atD _ ((0 : Nat) : Int)) = _
    rw [atD_nat]
    rfl
  generalize (List.range' (k + 1) (n - k - 1)).map (fun x => tt (wdT T k x)) = W1
  generalize grT T k 1 = g1
  generalize (List.range' k (n - k)).map nD = R
  simp [i0]
theorem st24b (s : Rd) (sc : D) (n : Nat) (T : List (List Int)) (h2 : 2 ≤ n) (h6 : n ≤ 6) (hD : Dst n T) (bT : ∀ i j, i < n → j < n → at2 T i j ≤ 100) (r4 r5 : Option Vl) (k : Nat) (k1 : 1 ≤ k) (kn : k < n) (r8 r9 r10 r11 r12 r13 r14 r15 r16 : Option Vl) (d17 d18 : D) (r19 r20 r21 r22 : Option Vl) : ∃ r25, (sFor (iL (eCut (eV 23) (pSome (eC (.int 1))) pNo)) (gN 25) (sSet 24 (eCall G.F_glued [.va (eV 24), .va (eV 25), .va (eV 6)]))) [some (.v sc), some (Rd.v s), some (.v (.int (n : Int))), some (.v (tt T)), r4, r5, some (.v (.int ((k : Nat) : Int))), some (.v (.lst ((List.range' k (n - k)).map nD))), r8, r9, r10, r11, r12, r13, r14, r15, r16, some (.v d17), some (.v d18), r19, r20, r21, r22, some (.o (((List.range' k (n - k)).map fun x => tt (wdT T k x)))), some (.v (tt (grT T k 1))), none, none] = .nxt [some (.v sc), some (Rd.v s), some (.v (.int (n : Int))), some (.v (tt T)), r4, r5, some (.v (.int ((k : Nat) : Int))), some (.v (.lst ((List.range' k (n - k)).map nD))), r8, r9, r10, r11, r12, r13, r14, r15, r16, some (.v d17), some (.v d18), r19, r20, r21, r22, some (.v (.lst (((List.range' k (n - k)).map fun x => tt (wdT T k x))))), some (.v (tt (grT T k (n - k)))), r25, none] := by
  obtain ⟨e', h, r25, hk, rfl⟩ := forGoH (g := gN 25) (b := (sSet 24 (eCall G.F_glued [.va (eV 24), .va (eV 25), .va (eV 6)]))) (fun t => tt (wdT T k (k + t))) (fun t e => ∃ r25, 1 ≤ t ∧ e = [some (.v sc), some (Rd.v s), some (.v (.int (n : Int))), some (.v (tt T)), r4, r5, some (.v (.int ((k : Nat) : Int))), some (.v (.lst ((List.range' k (n - k)).map nD))), r8, r9, r10, r11, r12, r13, r14, r15, r16, some (.v d17), some (.v d18), r19, r20, r21, r22, some (.v (.lst (((List.range' k (n - k)).map fun x => tt (wdT T k x))))), some (.v (tt (grT T k t))), r25, none]) (n - k) (n - k - 1) 1 [some (.v sc), some (Rd.v s), some (.v (.int (n : Int))), some (.v (tt T)), r4, r5, some (.v (.int ((k : Nat) : Int))), some (.v (.lst ((List.range' k (n - k)).map nD))), r8, r9, r10, r11, r12, r13, r14, r15, r16, some (.v d17), some (.v d18), r19, r20, r21, r22, some (.v (.lst (((List.range' k (n - k)).map fun x => tt (wdT T k x))))), some (.v (tt (grT T k 1))), none, none] (by omega) ⟨none, by omega, rfl⟩ (by
    rintro t e ht ⟨r25, t1, rfl⟩
    have g := glued_ok (gr_shr hD bT k1 (by omega) t t1 (by omega))
    rw [gr_glu hD k1 (by omega)] at g
    refine ⟨_, [some (.v sc), some (Rd.v s), some (.v (.int (n : Int))), some (.v (tt T)), r4, r5, some (.v (.int ((k : Nat) : Int))), some (.v (.lst ((List.range' k (n - k)).map nD))), r8, r9, r10, r11, r12, r13, r14, r15, r16, some (.v d17), some (.v d18), r19, r20, r21, r22, some (.v (.lst (((List.range' k (n - k)).map fun x => tt (wdT T k x))))), some (.v (tt (grT T k (t + 1)))), some (.v (tt (wdT T k (k + t)))), none], rfl, ?_, _, by omega, rfl⟩
    generalize (List.range' k (n - k)).map (fun x => tt (wdT T k x)) = W1 at *
    generalize (List.range' k (n - k)).map nD = R at *
    generalize grT T k (t + 1) = g1 at *
    generalize grT T k t = g0 at *
    generalize wdT T k (k + t) = w0 at *
    simp [g])
  refine ⟨r25, ?_⟩
  have e : (List.range' 1 (n - k - 1)).map (fun t => tt (wdT T k (k + t))) = ((List.range' k (n - k)).map fun x => tt (wdT T k x)).drop 1 := by
    rw [show n - k = (n - k - 1) + 1 by omega, List.range'_succ, List.map_cons, List.drop_one, List.tail_cons, Nat.add_sub_cancel]
    refine List.ext_getElem? fun i => ?_
    rw [List.getElem?_map, List.getElem?_map]
    rcases Nat.lt_or_ge i (n - k - 1) with q | q
    · rw [List.getElem?_range' q, List.getElem?_range' q]
      simp
      congr 2
      omega
    · rw [List.getElem?_eq_none (by rw [List.length_range']; exact q), List.getElem?_eq_none (by rw [List.length_range']; exact q)]
      rfl
  rw [e] at h
  have hcut : oCut (.v (.lst ((List.range' k (n - k)).map fun x => tt (wdT T k x)))) (some 1) none = some (.o (((List.range' k (n - k)).map fun x => tt (wdT T k x)).drop 1)) := by
    have := cut_from ((List.range' k (n - k)).map fun x => tt (wdT T k x)) 1 (by rw [List.length_map, List.length_range']; omega)
    show some (Vl.o (cutL _ (some ((1 : Nat) : Int)) none)) = _
    rw [this]
  have hit : (iL (eCut (eV 23) (pSome (eC (.int 1))) pNo)) [some (.v sc), some (Rd.v s), some (.v (.int (n : Int))), some (.v (tt T)), r4, r5, some (.v (.int ((k : Nat) : Int))), some (.v (.lst ((List.range' k (n - k)).map nD))), r8, r9, r10, r11, r12, r13, r14, r15, r16, some (.v d17), some (.v d18), r19, r20, r21, r22, some (.o (((List.range' k (n - k)).map fun x => tt (wdT T k x)))), some (.v (tt (grT T k 1))), none, none] = .ok (((List.range' k (n - k)).map fun x => tt (wdT T k x)).drop 1) [some (.v sc), some (Rd.v s), some (.v (.int (n : Int))), some (.v (tt T)), r4, r5, some (.v (.int ((k : Nat) : Int))), some (.v (.lst ((List.range' k (n - k)).map nD))), r8, r9, r10, r11, r12, r13, r14, r15, r16, some (.v d17), some (.v d18), r19, r20, r21, r22, some (.v (.lst (((List.range' k (n - k)).map fun x => tt (wdT T k x))))), some (.v (tt (grT T k 1))), none, none] := by
    clear h e
    generalize (List.range' k (n - k)).map (fun x => tt (wdT T k x)) = W1 at *
    generalize (List.range' k (n - k)).map nD = R at *
    generalize grT T k 1 = g1 at *
    simp [hcut, pNo, pSome, Vl.int]
  rw [s_sFor, hit]
  exact h
theorem st24c1 (s : Rd) (sc : D) (n : Nat) (T : List (List Int)) (h2 : 2 ≤ n) (h6 : n ≤ 6) (hD : Dst n T) (bT : ∀ i j, i < n → j < n → at2 T i j ≤ 100) (r4 r5 : Option Vl) (k : Nat) (k1 : 1 ≤ k) (kn : k < n) (r8 r9 r10 r11 r12 r13 r14 : Option Vl) (d17 d18 : D) (r19 r20 r21 r22 r23 r25 : Option Vl) (i j : Nat) (hi : i < n - k) (hj : j < i) : (sIf (tB (e2 oNe (e2 oIx (eIxP 24 (e2 oAdd (eV 6) (eV 15))) (e2 oAdd (eV 6) (eV 16))) (e1 oMinL (eComp [26] (iR1 (eV 6)) (gN 26) tYes (e2 oAdd (e2 oIx (eIxP 3 (eIxP 7 (eV 15))) (eV 26)) (e2 oIx (eIxP 3 (eV 26)) (eIxP 7 (eV 16)))))))) (sRet (eC (.bl false))) sNil) [some (.v sc), some (Rd.v s), some (.v (.int (n : Int))), some (.v (tt T)), r4, r5, some (.v (.int ((k : Nat) : Int))), some (.v (.lst ((List.range' k (n - k)).map nD))), r8, r9, r10, r11, r12, r13, r14, some (.v (.int ((i : Nat) : Int))), some (.v (.int ((j : Nat) : Int))), some (.v d17), some (.v d18), r19, r20, r21, r22, r23, some (.v (tt (grT T k (n - k)))), r25, none] = .nxt [some (.v sc), some (Rd.v s), some (.v (.int (n : Int))), some (.v (tt T)), r4, r5, some (.v (.int ((k : Nat) : Int))), some (.v (.lst ((List.range' k (n - k)).map nD))), r8, r9, r10, r11, r12, r13, r14, some (.v (.int ((i : Nat) : Int))), some (.v (.int ((j : Nat) : Int))), some (.v d17), some (.v d18), r19, r20, r21, r22, r23, some (.v (tt (grT T k (n - k)))), r25, none] := by
  have hT := hD.tab
  have jT := hT.tab (by omega) (by omega) (by omega)
  have lT := hT.sq.len
  have sT := hT.sqr
  have sG : Sq (k + (n - k)) (grT T k (n - k)) := fnT_sq _ _
  obtain ⟨rg, g1, g2⟩ := ix_tt2 sG (show k + i < k + (n - k) by omega) (show k + j < k + (n - k) by omega)
  have eg : at2 (grT T k (n - k)) (k + i) (k + j) = wS T k (k + i) (k + j) := by
    unfold grT
    rw [fnT_at _ (by omega) (by omega)]
    unfold grG
    rw [if_neg (by omega), if_neg (by omega)]
  rw [eg] at g2
  have lr : (List.range' k (n - k)).length = n - k := List.length_range'
  have r1 := ix_nDv (List.range' k (n - k)) (i := i) (by omega)
  have r2 := ix_nDv (List.range' k (n - k)) (i := j) (by omega)
  have q1 : (List.range' k (n - k)).getD i 0 = k + i := by
    unfold List.getD
    rw [List.getElem?_range' (by omega)]
    simp
  have q2 : (List.range' k (n - k)).getD j 0 = k + j := by
    unfold List.getD
    rw [List.getElem?_range' (by omega)]
    simp
  rw [q1] at r1
  rw [q2] at r2
  have ei : (k : Int) + (i : Int) = ((k + i : Nat) : Int) := rfl
  have ej : (k : Int) + (j : Int) = ((k + j : Nat) : Int) := rfl
  have hc := eCompA (k := 26) (it := iR1 (eV 6)) (x := e2 oAdd (e2 oIx (eIxP 3 (eIxP 7 (eV 15))) (eV 26)) (e2 oIx (eIxP 3 (eV 26)) (eIxP 7 (eV 16)))) (e := [some (.v sc), some (Rd.v s), some (.v (.int (n : Int))), some (.v (tt T)), r4, r5, some (.v (.int ((k : Nat) : Int))), some (.v (.lst ((List.range' k (n - k)).map nD))), r8, r9, r10, r11, r12, r13, r14, some (.v (.int ((i : Nat) : Int))), some (.v (.int ((j : Nat) : Int))), some (.v d17), some (.v d18), r19, r20, r21, r22, r23, some (.v (tt (grT T k (n - k)))), r25, none]) (e1 := [some (.v sc), some (Rd.v s), some (.v (.int (n : Int))), some (.v (tt T)), r4, r5, some (.v (.int ((k : Nat) : Int))), some (.v (.lst ((List.range' k (n - k)).map nD))), r8, r9, r10, r11, r12, r13, r14, some (.v (.int ((i : Nat) : Int))), some (.v (.int ((j : Nat) : Int))), some (.v d17), some (.v d18), r19, r20, r21, r22, r23, some (.v (tt (grT T k (n - k)))), r25, none]) (l := rng 0 k)
    (fun c => .int (at2 T (k + i) c.nat + at2 T c.nat (k + j))) (iR1_nat (by simp) (by omega)) (by rw [rng_len]; unfold lim; omega) rfl (fun d hd => by
      obtain ⟨y, hy, rfl⟩ := rng_mem hd
      have e0 : (0 : Int) + (y : Int) = (y : Int) := by omega
      rw [e0]
      have hnat : (D.int (y : Int)).nat = y := rfl
      rw [hnat]
      obtain ⟨ra, t1, t2⟩ := ix_tt2 hT.sq (show k + i < n by omega) (show y < n by omega)
      obtain ⟨rb, t3, t4⟩ := ix_tt2 hT.sq (show y < n by omega) (show k + j < n by omega)
      generalize (List.range' k (n - k)).map nD = R at *
      generalize grT T k (n - k) = g0 at *
      exact ⟨.v (.int (at2 T (k + i) y + at2 T y (k + j))), by simp [r1, r2, t1, t2, t3, t4, -Int.natCast_add], rfl⟩)
  rw [row_ints k (fun y => at2 T (k + i) y + at2 T y (k + j))] at hc
  have hm : oMinL (.o (((List.range k).map fun y => at2 T (k + i) y + at2 T y (k + j)).map .int)) = some (.v (.int (wS T k (k + i) (k + j)))) := oMinL_o (by
    intro z
    rw [List.map_eq_nil_iff, List.range_eq_nil] at z
    omega)
  have gx : oIx (.v (tt (grT T k (n - k)))) (.v (.int ((k : Int) + (i : Int)))) = some (.v (ti rg)) := by rw [ei, ix_tt, g1]; rfl
  have gy : oIx (.v (ti rg)) (.v (.int ((k : Int) + (j : Int)))) = some (.v (.int (wS T k (k + i) (k + j)))) := by rw [ej, ix_ti, g2]; rfl
  clear eg
  generalize ((List.range k).map fun y => at2 T (k + i) y + at2 T y (k + j)).map D.int = R1 at *
  generalize wS T k (k + i) (k + j) = ws at *
  generalize (List.range' k (n - k)).map nD = R at *
  generalize grT T k (n - k) = g0 at *
  generalize eComp [26] (iR1 (eV 6)) (gN 26) tYes (e2 oAdd (e2 oIx (eIxP 3 (eIxP 7 (eV 15))) (eV 26)) (e2 oIx (eIxP 3 (eV 26)) (eIxP 7 (eV 16)))) = Y at hc ⊢
  simp [gx, gy, hc, hm]
theorem st24c2 (s : Rd) (sc : D) (n : Nat) (T : List (List Int)) (h2 : 2 ≤ n) (h6 : n ≤ 6) (hD : Dst n T) (bT : ∀ i j, i < n → j < n → at2 T i j ≤ 100) (r4 r5 : Option Vl) (k : Nat) (k1 : 1 ≤ k) (kn : k < n) (r8 r9 r10 r11 r12 r13 r14 : Option Vl) (d17 d18 : D) (r19 r20 r21 r22 r23 r25 : Option Vl) (i : Nat) (hi : i < n - k) (r16 : Option Vl) : ∃ r16', (sFor (iR1 (eV 15)) (gN 16) (sIf (tB (e2 oNe (e2 oIx (eIxP 24 (e2 oAdd (eV 6) (eV 15))) (e2 oAdd (eV 6) (eV 16))) (e1 oMinL (eComp [26] (iR1 (eV 6)) (gN 26) tYes (e2 oAdd (e2 oIx (eIxP 3 (eIxP 7 (eV 15))) (eV 26)) (e2 oIx (eIxP 3 (eV 26)) (eIxP 7 (eV 16)))))))) (sRet (eC (.bl false))) sNil)) [some (.v sc), some (Rd.v s), some (.v (.int (n : Int))), some (.v (tt T)), r4, r5, some (.v (.int ((k : Nat) : Int))), some (.v (.lst ((List.range' k (n - k)).map nD))), r8, r9, r10, r11, r12, r13, r14, some (.v (.int ((i : Nat) : Int))), r16, some (.v d17), some (.v d18), r19, r20, r21, r22, r23, some (.v (tt (grT T k (n - k)))), r25, none] = .nxt [some (.v sc), some (Rd.v s), some (.v (.int (n : Int))), some (.v (tt T)), r4, r5, some (.v (.int ((k : Nat) : Int))), some (.v (.lst ((List.range' k (n - k)).map nD))), r8, r9, r10, r11, r12, r13, r14, some (.v (.int ((i : Nat) : Int))), r16', some (.v d17), some (.v d18), r19, r20, r21, r22, r23, some (.v (tt (grT T k (n - k)))), r25, none] := by
  obtain ⟨e', h, q16, rfl⟩ := forGoR (g := gN 16) (b := (sIf (tB (e2 oNe (e2 oIx (eIxP 24 (e2 oAdd (eV 6) (eV 15))) (e2 oAdd (eV 6) (eV 16))) (e1 oMinL (eComp [26] (iR1 (eV 6)) (gN 26) tYes (e2 oAdd (e2 oIx (eIxP 3 (eIxP 7 (eV 15))) (eV 26)) (e2 oIx (eIxP 3 (eV 26)) (eIxP 7 (eV 16)))))))) (sRet (eC (.bl false))) sNil)) (fun j e => ∃ r16, e = [some (.v sc), some (Rd.v s), some (.v (.int (n : Int))), some (.v (tt T)), r4, r5, some (.v (.int ((k : Nat) : Int))), some (.v (.lst ((List.range' k (n - k)).map nD))), r8, r9, r10, r11, r12, r13, r14, some (.v (.int ((i : Nat) : Int))), r16, some (.v d17), some (.v d18), r19, r20, r21, r22, r23, some (.v (tt (grT T k (n - k)))), r25, none]) i i 0 [some (.v sc), some (Rd.v s), some (.v (.int (n : Int))), some (.v (tt T)), r4, r5, some (.v (.int ((k : Nat) : Int))), some (.v (.lst ((List.range' k (n - k)).map nD))), r8, r9, r10, r11, r12, r13, r14, some (.v (.int ((i : Nat) : Int))), r16, some (.v d17), some (.v d18), r19, r20, r21, r22, r23, some (.v (tt (grT T k (n - k)))), r25, none] (by omega) ⟨r16, rfl⟩ (by
    rintro j e hj ⟨r16, rfl⟩
    exact ⟨_, _, rfl, st24c1 s sc n T h2 h6 hD bT r4 r5 k k1 kn r8 r9 r10 r11 r12 r13 r14 d17 d18 r19 r20 r21 r22 r23 r25 i j hi hj, _, rfl⟩)
  rw [← rng_range'] at h
  refine ⟨q16, ?_⟩
  rw [s_sFor, iR1_nat (n := i) (e' := [some (.v sc), some (Rd.v s), some (.v (.int (n : Int))), some (.v (tt T)), r4, r5, some (.v (.int ((k : Nat) : Int))), some (.v (.lst ((List.range' k (n - k)).map nD))), r8, r9, r10, r11, r12, r13, r14, some (.v (.int ((i : Nat) : Int))), r16, some (.v d17), some (.v d18), r19, r20, r21, r22, r23, some (.v (tt (grT T k (n - k)))), r25, none]) (by
    generalize (List.range' k (n - k)).map nD = R
    generalize grT T k (n - k) = g0
    simp) (by omega)]
  exact h
theorem st24c (s : Rd) (sc : D) (n : Nat) (T : List (List Int)) (h2 : 2 ≤ n) (h6 : n ≤ 6) (hD : Dst n T) (bT : ∀ i j, i < n → j < n → at2 T i j ≤ 100) (r4 r5 : Option Vl) (k : Nat) (k1 : 1 ≤ k) (kn : k < n) (r8 r9 r10 r11 r12 r13 r14 : Option Vl) (d17 d18 : D) (r19 r20 r21 r22 r23 r25 : Option Vl) (r15 r16 : Option Vl) : ∃ r15' r16', (sFor (iR1 (e1 oLen (eP 7))) (gN 15) (sFor (iR1 (eV 15)) (gN 16) (sIf (tB (e2 oNe (e2 oIx (eIxP 24 (e2 oAdd (eV 6) (eV 15))) (e2 oAdd (eV 6) (eV 16))) (e1 oMinL (eComp [26] (iR1 (eV 6)) (gN 26) tYes (e2 oAdd (e2 oIx (eIxP 3 (eIxP 7 (eV 15))) (eV 26)) (e2 oIx (eIxP 3 (eV 26)) (eIxP 7 (eV 16)))))))) (sRet (eC (.bl false))) sNil))) [some (.v sc), some (Rd.v s), some (.v (.int (n : Int))), some (.v (tt T)), r4, r5, some (.v (.int ((k : Nat) : Int))), some (.v (.lst ((List.range' k (n - k)).map nD))), r8, r9, r10, r11, r12, r13, r14, r15, r16, some (.v d17), some (.v d18), r19, r20, r21, r22, r23, some (.v (tt (grT T k (n - k)))), r25, none] = .nxt [some (.v sc), some (Rd.v s), some (.v (.int (n : Int))), some (.v (tt T)), r4, r5, some (.v (.int ((k : Nat) : Int))), some (.v (.lst ((List.range' k (n - k)).map nD))), r8, r9, r10, r11, r12, r13, r14, r15', r16', some (.v d17), some (.v d18), r19, r20, r21, r22, r23, some (.v (tt (grT T k (n - k)))), r25, none] := by
  obtain ⟨e', h, q15, q16, rfl⟩ := forGoR (g := gN 15) (b := (sFor (iR1 (eV 15)) (gN 16) (sIf (tB (e2 oNe (e2 oIx (eIxP 24 (e2 oAdd (eV 6) (eV 15))) (e2 oAdd (eV 6) (eV 16))) (e1 oMinL (eComp [26] (iR1 (eV 6)) (gN 26) tYes (e2 oAdd (e2 oIx (eIxP 3 (eIxP 7 (eV 15))) (eV 26)) (e2 oIx (eIxP 3 (eV 26)) (eIxP 7 (eV 16)))))))) (sRet (eC (.bl false))) sNil))) (fun j e => ∃ r15 r16, e = [some (.v sc), some (Rd.v s), some (.v (.int (n : Int))), some (.v (tt T)), r4, r5, some (.v (.int ((k : Nat) : Int))), some (.v (.lst ((List.range' k (n - k)).map nD))), r8, r9, r10, r11, r12, r13, r14, r15, r16, some (.v d17), some (.v d18), r19, r20, r21, r22, r23, some (.v (tt (grT T k (n - k)))), r25, none]) (n - k) (n - k) 0 [some (.v sc), some (Rd.v s), some (.v (.int (n : Int))), some (.v (tt T)), r4, r5, some (.v (.int ((k : Nat) : Int))), some (.v (.lst ((List.range' k (n - k)).map nD))), r8, r9, r10, r11, r12, r13, r14, r15, r16, some (.v d17), some (.v d18), r19, r20, r21, r22, r23, some (.v (tt (grT T k (n - k)))), r25, none] (by omega) ⟨r15, r16, rfl⟩ (by
    rintro j e hj ⟨r15, r16, rfl⟩
    obtain ⟨q, hq⟩ := st24c2 s sc n T h2 h6 hD bT r4 r5 k k1 kn r8 r9 r10 r11 r12 r13 r14 d17 d18 r19 r20 r21 r22 r23 r25 j hj r16
    exact ⟨_, _, rfl, hq, _, _, rfl⟩)
  rw [← rng_range'] at h
  refine ⟨q15, q16, ?_⟩
  have lr : ((List.range' k (n - k)).map nD).length = n - k := by rw [List.length_map, List.length_range']
  rw [s_sFor, iR1_nat (n := n - k) (e' := [some (.v sc), some (Rd.v s), some (.v (.int (n : Int))), some (.v (tt T)), r4, r5, some (.v (.int ((k : Nat) : Int))), some (.v (.lst ((List.range' k (n - k)).map nD))), r8, r9, r10, r11, r12, r13, r14, r15, r16, some (.v d17), some (.v d18), r19, r20, r21, r22, r23, some (.v (tt (grT T k (n - k)))), r25, none]) (by
    generalize (List.range' k (n - k)).map nD = R at lr ⊢
    generalize grT T k (n - k) = g0
    simp [lr]) (by omega)]
  exact h
theorem st24 (s : Rd) (sc : D) (n : Nat) (T : List (List Int)) (h2 : 2 ≤ n) (h6 : n ≤ 6) (hD : Dst n T) (bT : ∀ i j, i < n → j < n → at2 T i j ≤ 100) (r4 r5 : Option Vl) (k : Nat) (k1 : 1 ≤ k) (kn : k < n) (r8 r9 r10 r11 r12 r13 r14 r15 r16 : Option Vl) (d17 d18 : D) (r19 r20 r21 r22 : Option Vl) : ∃ e', (sIf (tAnd (tB (e2 oGt (e1 oLen (eP 23)) (eC (.int 1)))) (tB (e2 oLe (eV 2) (eC (.int 8))))) (sSeq (sSet 24 (eIxP 23 (eC (.int 0)))) (sSeq (sFor (iL (eCut (eV 23) (pSome (eC (.int 1))) pNo)) (gN 25) (sSet 24 (eCall G.F_glued [.va (eV 24), .va (eV 25), .va (eV 6)]))) (sFor (iR1 (e1 oLen (eP 7))) (gN 15) (sFor (iR1 (eV 15)) (gN 16) (sIf (tB (e2 oNe (e2 oIx (eIxP 24 (e2 oAdd (eV 6) (eV 15))) (e2 oAdd (eV 6) (eV 16))) (e1 oMinL (eComp [26] (iR1 (eV 6)) (gN 26) tYes (e2 oAdd (e2 oIx (eIxP 3 (eIxP 7 (eV 15))) (eV 26)) (e2 oIx (eIxP 3 (eV 26)) (eIxP 7 (eV 16)))))))) (sRet (eC (.bl false))) sNil))))) sNil) [some (.v sc), some (Rd.v s), some (.v (.int (n : Int))), some (.v (tt T)), r4, r5, some (.v (.int ((k : Nat) : Int))), some (.v (.lst ((List.range' k (n - k)).map nD))), r8, r9, r10, r11, r12, r13, r14, r15, r16, some (.v d17), some (.v d18), r19, r20, r21, r22, some (.o (((List.range' k (n - k)).map fun x => tt (wdT T k x)))), none, none, none] = .nxt e' := by
  have lw : ((List.range' k (n - k)).map fun x => tt (wdT T k x)).length = n - k := by rw [List.length_map, List.length_range']
  have n8 : (n : Int) ≤ 8 := by omega
  have a := st24a s sc n T h2 h6 hD bT r4 r5 k k1 kn r8 r9 r10 r11 r12 r13 r14 r15 r16 d17 d18 r19 r20 r21 r22
  obtain ⟨r25, b⟩ := st24b s sc n T h2 h6 hD bT r4 r5 k k1 kn r8 r9 r10 r11 r12 r13 r14 r15 r16 d17 d18 r19 r20 r21 r22
  obtain ⟨q15, q16, c⟩ := st24c s sc n T h2 h6 hD bT r4 r5 k k1 kn r8 r9 r10 r11 r12 r13 r14 d17 d18 r19 r20 r21 r22 (some (.v (.lst (((List.range' k (n - k)).map fun x => tt (wdT T k x)))))) r25 r15 r16
  have abc := (seq_nxt a).trans ((seq_nxt b).trans c)
  have hcond : (tAnd (tB (e2 oGt (e1 oLen (eP 23)) (eC (.int 1)))) (tB (e2 oLe (eV 2) (eC (.int 8))))) [some (.v sc), some (Rd.v s), some (.v (.int (n : Int))), some (.v (tt T)), r4, r5, some (.v (.int ((k : Nat) : Int))), some (.v (.lst ((List.range' k (n - k)).map nD))), r8, r9, r10, r11, r12, r13, r14, r15, r16, some (.v d17), some (.v d18), r19, r20, r21, r22, some (.o (((List.range' k (n - k)).map fun x => tt (wdT T k x)))), none, none, none] = .ok (decide (1 < n - k)) [some (.v sc), some (Rd.v s), some (.v (.int (n : Int))), some (.v (tt T)), r4, r5, some (.v (.int ((k : Nat) : Int))), some (.v (.lst ((List.range' k (n - k)).map nD))), r8, r9, r10, r11, r12, r13, r14, r15, r16, some (.v d17), some (.v d18), r19, r20, r21, r22, some (.o (((List.range' k (n - k)).map fun x => tt (wdT T k x)))), none, none, none] := by
    clear a b c abc
    generalize (List.range' k (n - k)).map (fun x => tt (wdT T k x)) = W1 at *
    generalize (List.range' k (n - k)).map nD = R at *
    have q : (1 : Int) < ((n - k : Nat) : Int) ↔ 1 < n - k := by omega
    by_cases z : 1 < n - k
    · have z' : (1 : Int) < ((n - k : Nat) : Int) := by omega
      simp [lw, n8, z, z']
    · have z' : ¬ (1 : Int) < ((n - k : Nat) : Int) := by omega
      simp [lw, n8, z, z']
  by_cases z : 1 < n - k
  · rw [decide_eq_true z] at hcond
    exact ⟨_, (sIf_t hcond).trans abc⟩
  · rw [decide_eq_false z] at hcond
    exact ⟨_, (sIf_f hcond).trans rfl⟩
theorem st25 (e : En) : (sRet (eC (.bl true))) e = .ret (.v (.bl true)) e := by
  simp
namespace G
theorem law_ok (ns : List Int) (hns : ns.length ≤ 63) : F_law [.v (.lst (ns.map .int))] = .ok (.v (.bl true)) [] := by
  obtain ⟨seed, h0⟩ := begin_spec ns
  obtain ⟨n, s2, n2, n6, h1⟩ := st1 ⟨ns, 0, 0, seed⟩ (.lst (ns.map .int))
  obtain ⟨T, s3, ⟨hD, bT⟩, h2⟩ := st2 s2 (.lst (ns.map .int)) n n2 n6
  have h3 := st3 s3 (.lst (ns.map .int)) n T n2 n6 hD bT
  have h4 := st4 s3 (.lst (ns.map .int)) n T n2 n6 hD bT
  have h5 := st5 s3 (.lst (ns.map .int)) n T n2 n6 hD bT
  have h6 := st6 s3 (.lst (ns.map .int)) n T n2 n6 hD bT
  obtain ⟨k, s4, ⟨k1, kn⟩, h7⟩ := st7 s3 (.lst (ns.map .int)) n T n2 n6 hD bT (some (.v (tt (mv T (List.range (n - 1)))))) (some (.v (ti ((T.getD (n - 1) []).take (n - 1)))))
  have h8 := st8 s4 (.lst (ns.map .int)) n T n2 n6 hD bT (some (.v (tt (mv T (List.range (n - 1)))))) (some (.v (ti ((T.getD (n - 1) []).take (n - 1))))) k k1 kn
  obtain ⟨one, s5, hone, h9⟩ := st9 s4 (.lst (ns.map .int)) n T n2 n6 hD bT (some (.v (tt (mv T (List.range (n - 1)))))) (some (.v (ti ((T.getD (n - 1) []).take (n - 1))))) k k1 kn
  have h10 := st10 s5 (.lst (ns.map .int)) n T n2 n6 hD bT (some (.v (tt (mv T (List.range (n - 1)))))) (some (.v (ti ((T.getD (n - 1) []).take (n - 1))))) k k1 kn one hone
  have h11 := st11 s5 (.lst (ns.map .int)) n T n2 n6 hD bT (some (.v (tt (mv T (List.range (n - 1)))))) (some (.v (ti ((T.getD (n - 1) []).take (n - 1))))) k k1 kn one hone
  have h12 := st12 s5 (.lst (ns.map .int)) n T n2 n6 hD bT (some (.v (tt (mv T (List.range (n - 1)))))) (some (.v (ti ((T.getD (n - 1) []).take (n - 1))))) k k1 kn one hone
  have h13 := st13 s5 (.lst (ns.map .int)) n T n2 n6 hD bT (some (.v (tt (mv T (List.range (n - 1)))))) (some (.v (ti ((T.getD (n - 1) []).take (n - 1))))) k k1 kn one hone
  have h14 := st14 s5 (.lst (ns.map .int)) n T n2 n6 hD bT (some (.v (tt (mv T (List.range (n - 1)))))) (some (.v (ti ((T.getD (n - 1) []).take (n - 1))))) k k1 kn one hone
  have h15 := st15 s5 (.lst (ns.map .int)) n T n2 n6 hD bT (some (.v (tt (mv T (List.range (n - 1)))))) (some (.v (ti ((T.getD (n - 1) []).take (n - 1))))) k k1 kn one hone
  obtain ⟨r15, r16, d17, d18, h16⟩ := st16 s5 (.lst (ns.map .int)) n T n2 n6 hD bT (some (.v (tt (mv T (List.range (n - 1)))))) (some (.v (ti ((T.getD (n - 1) []).take (n - 1))))) k k1 kn one hone
  have h17 := st17 s5 (.lst (ns.map .int)) n T n2 n6 hD bT (some (.v (tt (mv T (List.range (n - 1)))))) (some (.v (ti ((T.getD (n - 1) []).take (n - 1))))) k k1 kn one hone r15 r16 d17 d18
  have h18 := st18 s5 (.lst (ns.map .int)) n T n2 n6 hD bT (some (.v (tt (mv T (List.range (n - 1)))))) (some (.v (ti ((T.getD (n - 1) []).take (n - 1))))) k k1 kn one hone r15 r16 d17 d18
  have h19 := st19 s5 (.lst (ns.map .int)) n T n2 n6 hD bT (some (.v (tt (mv T (List.range (n - 1)))))) (some (.v (ti ((T.getD (n - 1) []).take (n - 1))))) k k1 kn one hone r15 r16 d17 d18
  obtain ⟨bs, r20, ⟨bl, hb⟩, h20⟩ := st20 s5 (.lst (ns.map .int)) n T n2 n6 hD bT (some (.v (tt (mv T (List.range (n - 1)))))) (some (.v (ti ((T.getD (n - 1) []).take (n - 1))))) k k1 kn one hone r15 r16 d17 d18
  have h21 := st21 s5 (.lst (ns.map .int)) n T n2 n6 hD bT (some (.v (tt (mv T (List.range (n - 1)))))) (some (.v (ti ((T.getD (n - 1) []).take (n - 1))))) k k1 kn one hone r15 r16 d17 d18 bs r20 bl hb
  have h22 := st22 s5 (.lst (ns.map .int)) n T n2 n6 hD bT (some (.v (tt (mv T (List.range (n - 1)))))) (some (.v (ti ((T.getD (n - 1) []).take (n - 1))))) k k1 kn (some (.v (.lst ((one).map nD)))) (some (.v (.lst ((oth n k one).map nD)))) (some (.v (.lst ((fst' k one).map nD)))) (some (.v (.lst ((fst' k (oth n k one)).map nD)))) (some (.v (tt (bothP n k T one)))) (some (.v (tt (lowP n k T one)))) (some (.v (.lst ((fst' k one ++ oth n k one).map nD)))) r15 r16 d17 d18 (some (.v (tt (turnP n k T one)))) r20 (some (.v (.lst ((bs).map nD))))
  have h23 := st23 s5 (.lst (ns.map .int)) n T n2 n6 hD bT (some (.v (tt (mv T (List.range (n - 1)))))) (some (.v (ti ((T.getD (n - 1) []).take (n - 1))))) k k1 kn (some (.v (.lst ((one).map nD)))) (some (.v (.lst ((oth n k one).map nD)))) (some (.v (.lst ((fst' k one).map nD)))) (some (.v (.lst ((fst' k (oth n k one)).map nD)))) (some (.v (tt (bothP n k T one)))) (some (.v (tt (lowP n k T one)))) (some (.v (.lst ((fst' k one ++ oth n k one).map nD)))) r15 r16 d17 d18 (some (.v (tt (turnP n k T one)))) r20 (some (.v (.lst ((bs).map nD))))
  obtain ⟨e', h24⟩ := st24 s5 (.lst (ns.map .int)) n T n2 n6 hD bT (some (.v (tt (mv T (List.range (n - 1)))))) (some (.v (ti ((T.getD (n - 1) []).take (n - 1))))) k k1 kn (some (.v (.lst ((one).map nD)))) (some (.v (.lst ((oth n k one).map nD)))) (some (.v (.lst ((fst' k one).map nD)))) (some (.v (.lst ((fst' k (oth n k one)).map nD)))) (some (.v (tt (bothP n k T one)))) (some (.v (tt (lowP n k T one)))) (some (.v (.lst ((fst' k one ++ oth n k one).map nD)))) r15 r16 d17 d18 (some (.v (tt (turnP n k T one)))) r20 (some (.v (.lst ((bs).map nD)))) (some (.v (tt (mv T (List.range k)))))
  have h0' : (sSet 1 (eCall G.F__law_begin [.va (eV 0)])) [some (.v (.lst (ns.map .int))), none, none, none, none, none, none, none, none, none, none, none, none, none, none, none, none, none, none, none, none, none, none, none, none, none, none] = .nxt [some (.v (.lst (ns.map .int))), some (Rd.v ⟨ns, 0, 0, seed⟩), none, none, none, none, none, none, none, none, none, none, none, none, none, none, none, none, none, none, none, none, none, none, none, none, none] := by
    simp [h0]
  apply run_of (os := [])
  · unfold c_law
    refine (seq_nxt h0').trans ?_
    refine (seq_nxt h1).trans ?_
    refine (seq_nxt h2).trans ?_
    refine (seq_nxt h3).trans ?_
    refine (seq_nxt h4).trans ?_
    refine (seq_nxt h5).trans ?_
    refine (seq_nxt h6).trans ?_
    refine (seq_nxt h7).trans ?_
    refine (seq_nxt h8).trans ?_
    refine (seq_nxt h9).trans ?_
    refine (seq_nxt h10).trans ?_
    refine (seq_nxt h11).trans ?_
    refine (seq_nxt h12).trans ?_
    refine (seq_nxt h13).trans ?_
    refine (seq_nxt h14).trans ?_
    refine (seq_nxt h15).trans ?_
    refine (seq_nxt h16).trans ?_
    refine (seq_nxt h17).trans ?_
    refine (seq_nxt h18).trans ?_
    refine (seq_nxt h19).trans ?_
    refine (seq_nxt h20).trans ?_
    refine (seq_nxt h21).trans ?_
    refine (seq_nxt h22).trans ?_
    refine (seq_nxt h23).trans ?_
    refine (seq_nxt h24).trans ?_
    exact st25 _
  · rfl
end G
end Fx
end

set_option Elab.async false
set_option maxRecDepth 100000
set_option linter.all false
namespace Fx
namespace G
open PySem PySem.Spec PyProof.Rows L2
set_option maxHeartbeats 4000000 in
theorem all_mk {w : World} {K : PySem.W.Frag} {h : Heap} {mg : Str → Option Value} {fa : Addr} (X : K.In h) (G : h.Ns mainGlobals mg) (hfa : mg "law" = some (.ref fa))
    {q0 : Addr} {od0 an0 : Option Addr} {sl0 : Array (Option Value)} {oc0 kV0 dc0 pm0 cd0 ct0 : Value}
    {q1 : Addr} {od1 an1 : Option Addr} {sl1 : Array (Option Value)} {oc1 kV1 dc1 pm1 cd1 ct1 : Value}
    {q2 : Addr} {od2 an2 : Option Addr} {sl2 : Array (Option Value)} {oc2 kV2 dc2 pm2 cd2 ct2 : Value}
    {q3 : Addr} {od3 an3 : Option Addr} {sl3 : Array (Option Value)} {oc3 kV3 dc3 pm3 cd3 ct3 : Value}
    {q4 : Addr} {od4 an4 : Option Addr} {sl4 : Array (Option Value)} {oc4 kV4 dc4 pm4 cd4 ct4 : Value}
    {q5 : Addr} {od5 an5 : Option Addr} {sl5 : Array (Option Value)} {oc5 kV5 dc5 pm5 cd5 ct5 : Value}
    {q6 : Addr} {od6 an6 : Option Addr} {sl6 : Array (Option Value)} {oc6 kV6 dc6 pm6 cd6 ct6 : Value}
    {q7 : Addr} {od7 an7 : Option Addr} {sl7 : Array (Option Value)} {oc7 kV7 dc7 pm7 cd7 ct7 : Value}
    {q8 : Addr} {od8 an8 : Option Addr} {sl8 : Array (Option Value)} {oc8 kV8 dc8 pm8 cd8 ct8 : Value}
    {q9 : Addr} {od9 an9 : Option Addr} {sl9 : Array (Option Value)} {oc9 kV9 dc9 pm9 cd9 ct9 : Value}
    {q10 : Addr} {od10 an10 : Option Addr} {sl10 : Array (Option Value)} {oc10 kV10 dc10 pm10 cd10 ct10 : Value}
    {q11 : Addr} {od11 an11 : Option Addr} {sl11 : Array (Option Value)} {oc11 kV11 dc11 pm11 cd11 ct11 : Value}
    {q12 : Addr} {od12 an12 : Option Addr} {sl12 : Array (Option Value)} {oc12 kV12 dc12 pm12 cd12 ct12 : Value}
    {q13 : Addr} {od13 an13 : Option Addr} {sl13 : Array (Option Value)} {oc13 kV13 dc13 pm13 cd13 ct13 : Value}
    {q14 : Addr} {od14 an14 : Option Addr} {sl14 : Array (Option Value)} {oc14 kV14 dc14 pm14 cd14 ct14 : Value}
    {q15 : Addr} {od15 an15 : Option Addr} {sl15 : Array (Option Value)} {oc15 kV15 dc15 pm15 cd15 ct15 : Value}
    {q16 : Addr} {od16 an16 : Option Addr} {sl16 : Array (Option Value)} {oc16 kV16 dc16 pm16 cd16 ct16 : Value}
    {q17 : Addr} {od17 an17 : Option Addr} {sl17 : Array (Option Value)} {oc17 kV17 dc17 pm17 cd17 ct17 : Value}
    {q18 : Addr} {od18 an18 : Option Addr} {sl18 : Array (Option Value)} {oc18 kV18 dc18 pm18 cd18 ct18 : Value}
    {q19 : Addr} {od19 an19 : Option Addr} {sl19 : Array (Option Value)} {oc19 kV19 dc19 pm19 cd19 ct19 : Value}
    {q20 : Addr} {od20 an20 : Option Addr} {sl20 : Array (Option Value)} {oc20 kV20 dc20 pm20 cd20 ct20 : Value}
    {q21 : Addr} {od21 an21 : Option Addr} {sl21 : Array (Option Value)} {oc21 kV21 dc21 pm21 cd21 ct21 : Value}
    {q22 : Addr} {od22 an22 : Option Addr} {sl22 : Array (Option Value)} {oc22 kV22 dc22 pm22 cd22 ct22 : Value}
    {q23 : Addr} {od23 an23 : Option Addr} {sl23 : Array (Option Value)} {oc23 kV23 dc23 pm23 cd23 ct23 : Value}
    {t_MOST_FAR : Tok}
    {t_MOST_POINTS : Tok}
    {cD cda cc fI : Addr} {ccl cl oci : Value} {cdd cld odi ani : Option Addr} {ccs csl osli : Array (Option Value)} {vsf : Array Value} {file : Str} {tf : Tok} {cdD : ClassData} {doci pmi cti : Value}
    {CTableError NTableError : Addr} {nmTableError qnTableError : Str} {bsTableError subTableError : List Value} {snTableError : List Str} {abTableError : Bool} {coTableError : Option Bool} {ddTableError : Option Addr} {m0TableError m1TableError m2TableError m3TableError m5TableError : Option Value}
    (a0 : PySem.W.nsIn K mainGlobals "is_integer" = some (some (.ref q0)))
    (l0 : K.lookup q0 = some ⟨oc0, od0, .func (PySem.W.fnOf "is_integer" "is_integer" (defArgs s_is_integer) (defBody s_is_integer) (defScope s_is_integer) .none kV0 dc0 pm0 an0 cd0 ct0), sl0⟩)
    (c0 : PySem.W.codeIn K cd0 "is_integer" = true)
    (k0 : PySem.W.keepIn K (.ref q0) = true)
    (a1 : PySem.W.nsIn K mainGlobals "check_table" = some (some (.ref q1)))
    (l1 : K.lookup q1 = some ⟨oc1, od1, .func (PySem.W.fnOf "check_table" "check_table" (defArgs s_check_table) (defBody s_check_table) (defScope s_check_table) .none kV1 dc1 pm1 an1 cd1 ct1), sl1⟩)
    (c1 : PySem.W.codeIn K cd1 "check_table" = true)
    (k1 : PySem.W.keepIn K (.ref q1) = true)
    (a2 : PySem.W.nsIn K mainGlobals "choices" = some (some (.ref q2)))
    (l2 : K.lookup q2 = some ⟨oc2, od2, .func (PySem.W.fnOf "choices" "choices" (defArgs s_choices) (defBody s_choices) (defScope s_choices) .none kV2 dc2 pm2 an2 cd2 ct2), sl2⟩)
    (c2 : PySem.W.codeIn K cd2 "choices" = true)
    (k2 : PySem.W.keepIn K (.ref q2) = true)
    (a3 : PySem.W.nsIn K mainGlobals "distance_paper" = some (some (.ref q3)))
    (l3 : K.lookup q3 = some ⟨oc3, od3, .func (PySem.W.fnOf "distance_paper" "distance_paper" (defArgs s_distance_paper) (defBody s_distance_paper) (defScope s_distance_paper) .none kV3 dc3 pm3 an3 cd3 ct3), sl3⟩)
    (c3 : PySem.W.codeIn K cd3 "distance_paper" = true)
    (k3 : PySem.W.keepIn K (.ref q3) = true)
    (a4 : PySem.W.nsIn K mainGlobals "check_distances" = some (some (.ref q4)))
    (l4 : K.lookup q4 = some ⟨oc4, od4, .func (PySem.W.fnOf "check_distances" "check_distances" (defArgs s_check_distances) (defBody s_check_distances) (defScope s_check_distances) .none kV4 dc4 pm4 an4 cd4 ct4), sl4⟩)
    (c4 : PySem.W.codeIn K cd4 "check_distances" = true)
    (k4 : PySem.W.keepIn K (.ref q4) = true)
    (a5 : PySem.W.nsIn K mainGlobals "check_row" = some (some (.ref q5)))
    (l5 : K.lookup q5 = some ⟨oc5, od5, .func (PySem.W.fnOf "check_row" "check_row" (defArgs s_check_row) (defBody s_check_row) (defScope s_check_row) .none kV5 dc5 pm5 an5 cd5 ct5), sl5⟩)
    (c5 : PySem.W.codeIn K cd5 "check_row" = true)
    (k5 : PySem.W.keepIn K (.ref q5) = true)
    (a6 : PySem.W.nsIn K mainGlobals "more_paper" = some (some (.ref q6)))
    (l6 : K.lookup q6 = some ⟨oc6, od6, .func (PySem.W.fnOf "more_paper" "more_paper" (defArgs s_more_paper) (defBody s_more_paper) (defScope s_more_paper) .none kV6 dc6 pm6 an6 cd6 ct6), sl6⟩)
    (c6 : PySem.W.codeIn K cd6 "more_paper" = true)
    (k6 : PySem.W.keepIn K (.ref q6) = true)
    (a7 : PySem.W.nsIn K mainGlobals "with_point" = some (some (.ref q7)))
    (l7 : K.lookup q7 = some ⟨oc7, od7, .func (PySem.W.fnOf "with_point" "with_point" (defArgs s_with_point) (defBody s_with_point) (defScope s_with_point) .none kV7 dc7 pm7 an7 cd7 ct7), sl7⟩)
    (c7 : PySem.W.codeIn K cd7 "with_point" = true)
    (k7 : PySem.W.keepIn K (.ref q7) = true)
    (a8 : PySem.W.nsIn K mainGlobals "check_shared" = some (some (.ref q8)))
    (l8 : K.lookup q8 = some ⟨oc8, od8, .func (PySem.W.fnOf "check_shared" "check_shared" (defArgs s_check_shared) (defBody s_check_shared) (defScope s_check_shared) .none kV8 dc8 pm8 an8 cd8 ct8), sl8⟩)
    (c8 : PySem.W.codeIn K cd8 "check_shared" = true)
    (k8 : PySem.W.keepIn K (.ref q8) = true)
    (a9 : PySem.W.nsIn K mainGlobals "step" = some (some (.ref q9)))
    (l9 : K.lookup q9 = some ⟨oc9, od9, .func (PySem.W.fnOf "step" "step" (defArgs s_step) (defBody s_step) (defScope s_step) .none kV9 dc9 pm9 an9 cd9 ct9), sl9⟩)
    (c9 : PySem.W.codeIn K cd9 "step" = true)
    (k9 : PySem.W.keepIn K (.ref q9) = true)
    (a10 : PySem.W.nsIn K mainGlobals "glued" = some (some (.ref q10)))
    (l10 : K.lookup q10 = some ⟨oc10, od10, .func (PySem.W.fnOf "glued" "glued" (defArgs s_glued) (defBody s_glued) (defScope s_glued) .none kV10 dc10 pm10 an10 cd10 ct10), sl10⟩)
    (c10 : PySem.W.codeIn K cd10 "glued" = true)
    (k10 : PySem.W.keepIn K (.ref q10) = true)
    (a11 : PySem.W.nsIn K mainGlobals "gap" = some (some (.ref q11)))
    (l11 : K.lookup q11 = some ⟨oc11, od11, .func (PySem.W.fnOf "gap" "gap" (defArgs s_gap) (defBody s_gap) (defScope s_gap) .none kV11 dc11 pm11 an11 cd11 ct11), sl11⟩)
    (c11 : PySem.W.codeIn K cd11 "gap" = true)
    (k11 : PySem.W.keepIn K (.ref q11) = true)
    (a12 : PySem.W.nsIn K mainGlobals "least_glued" = some (some (.ref q12)))
    (l12 : K.lookup q12 = some ⟨oc12, od12, .func (PySem.W.fnOf "least_glued" "least_glued" (defArgs s_least_glued) (defBody s_least_glued) (defScope s_least_glued) .none kV12 dc12 pm12 an12 cd12 ct12), sl12⟩)
    (c12 : PySem.W.codeIn K cd12 "least_glued" = true)
    (k12 : PySem.W.keepIn K (.ref q12) = true)
    (a13 : PySem.W.nsIn K mainGlobals "_law_begin" = some (some (.ref q13)))
    (l13 : K.lookup q13 = some ⟨oc13, od13, .func (PySem.W.fnOf "_law_begin" "_law_begin" (defArgs s__law_begin) (defBody s__law_begin) (defScope s__law_begin) .none kV13 dc13 pm13 an13 cd13 ct13), sl13⟩)
    (c13 : PySem.W.codeIn K cd13 "_law_begin" = true)
    (k13 : PySem.W.keepIn K (.ref q13) = true)
    (a14 : PySem.W.nsIn K mainGlobals "_law_take" = some (some (.ref q14)))
    (l14 : K.lookup q14 = some ⟨oc14, od14, .func (PySem.W.fnOf "_law_take" "_law_take" (defArgs s__law_take) (defBody s__law_take) (defScope s__law_take) .none kV14 dc14 pm14 an14 cd14 ct14), sl14⟩)
    (c14 : PySem.W.codeIn K cd14 "_law_take" = true)
    (k14 : PySem.W.keepIn K (.ref q14) = true)
    (a15 : PySem.W.nsIn K mainGlobals "_law_shuffled" = some (some (.ref q15)))
    (l15 : K.lookup q15 = some ⟨oc15, od15, .func (PySem.W.fnOf "_law_shuffled" "_law_shuffled" (defArgs s__law_shuffled) (defBody s__law_shuffled) (defScope s__law_shuffled) .none kV15 dc15 pm15 an15 cd15 ct15), sl15⟩)
    (c15 : PySem.W.codeIn K cd15 "_law_shuffled" = true)
    (k15 : PySem.W.keepIn K (.ref q15) = true)
    (a16 : PySem.W.nsIn K mainGlobals "_law_tree" = some (some (.ref q16)))
    (l16 : K.lookup q16 = some ⟨oc16, od16, .func (PySem.W.fnOf "_law_tree" "_law_tree" (defArgs s__law_tree) (defBody s__law_tree) (defScope s__law_tree) .none kV16 dc16 pm16 an16 cd16 ct16), sl16⟩)
    (c16 : PySem.W.codeIn K cd16 "_law_tree" = true)
    (k16 : PySem.W.keepIn K (.ref q16) = true)
    (a17 : PySem.W.nsIn K mainGlobals "_law_along" = some (some (.ref q17)))
    (l17 : K.lookup q17 = some ⟨oc17, od17, .func (PySem.W.fnOf "_law_along" "_law_along" (defArgs s__law_along) (defBody s__law_along) (defScope s__law_along) .none kV17 dc17 pm17 an17 cd17 ct17), sl17⟩)
    (c17 : PySem.W.codeIn K cd17 "_law_along" = true)
    (k17 : PySem.W.keepIn K (.ref q17) = true)
    (a18 : PySem.W.nsIn K mainGlobals "_law_table" = some (some (.ref q18)))
    (l18 : K.lookup q18 = some ⟨oc18, od18, .func (PySem.W.fnOf "_law_table" "_law_table" (defArgs s__law_table) (defBody s__law_table) (defScope s__law_table) .none kV18 dc18 pm18 an18 cd18 ct18), sl18⟩)
    (c18 : PySem.W.codeIn K cd18 "_law_table" = true)
    (k18 : PySem.W.keepIn K (.ref q18) = true)
    (a19 : PySem.W.nsIn K mainGlobals "_law_short" = some (some (.ref q19)))
    (l19 : K.lookup q19 = some ⟨oc19, od19, .func (PySem.W.fnOf "_law_short" "_law_short" (defArgs s__law_short) (defBody s__law_short) (defScope s__law_short) .none kV19 dc19 pm19 an19 cd19 ct19), sl19⟩)
    (c19 : PySem.W.codeIn K cd19 "_law_short" = true)
    (k19 : PySem.W.keepIn K (.ref q19) = true)
    (a20 : PySem.W.nsIn K mainGlobals "_law_pick" = some (some (.ref q20)))
    (l20 : K.lookup q20 = some ⟨oc20, od20, .func (PySem.W.fnOf "_law_pick" "_law_pick" (defArgs s__law_pick) (defBody s__law_pick) (defScope s__law_pick) .none kV20 dc20 pm20 an20 cd20 ct20), sl20⟩)
    (c20 : PySem.W.codeIn K cd20 "_law_pick" = true)
    (k20 : PySem.W.keepIn K (.ref q20) = true)
    (a21 : PySem.W.nsIn K mainGlobals "_law_distances" = some (some (.ref q21)))
    (l21 : K.lookup q21 = some ⟨oc21, od21, .func (PySem.W.fnOf "_law_distances" "_law_distances" (defArgs s__law_distances) (defBody s__law_distances) (defScope s__law_distances) .none kV21 dc21 pm21 an21 cd21 ct21), sl21⟩)
    (c21 : PySem.W.codeIn K cd21 "_law_distances" = true)
    (k21 : PySem.W.keepIn K (.ref q21) = true)
    (a22 : PySem.W.nsIn K mainGlobals "_law_part" = some (some (.ref q22)))
    (l22 : K.lookup q22 = some ⟨oc22, od22, .func (PySem.W.fnOf "_law_part" "_law_part" (defArgs s__law_part) (defBody s__law_part) (defScope s__law_part) .none kV22 dc22 pm22 an22 cd22 ct22), sl22⟩)
    (c22 : PySem.W.codeIn K cd22 "_law_part" = true)
    (k22 : PySem.W.keepIn K (.ref q22) = true)
    (a23 : PySem.W.nsIn K mainGlobals "law" = some (some (.ref q23)))
    (l23 : K.lookup q23 = some ⟨oc23, od23, .func (PySem.W.fnOf "law" "law" (defArgs s_law) (defBody s_law) (defScope s_law) .none kV23 dc23 pm23 an23 cd23 ct23), sl23⟩)
    (c23 : PySem.W.codeIn K cd23 "law" = true)
    (k23 : PySem.W.keepIn K (.ref q23) = true)
    (z_abs : PySem.W.nsIn K mainGlobals "abs" = some none)
    (z_any : PySem.W.nsIn K mainGlobals "any" = some none)
    (z_bool : PySem.W.nsIn K mainGlobals "bool" = some none)
    (z_enumerate : PySem.W.nsIn K mainGlobals "enumerate" = some none)
    (z_int : PySem.W.nsIn K mainGlobals "int" = some none)
    (z_isinstance : PySem.W.nsIn K mainGlobals "isinstance" = some none)
    (z_len : PySem.W.nsIn K mainGlobals "len" = some none)
    (z_list : PySem.W.nsIn K mainGlobals "list" = some none)
    (z_max : PySem.W.nsIn K mainGlobals "max" = some none)
    (z_min : PySem.W.nsIn K mainGlobals "min" = some none)
    (z_range : PySem.W.nsIn K mainGlobals "range" = some none)
    (z_sorted : PySem.W.nsIn K mainGlobals "sorted" = some none)
    (z_super : PySem.W.nsIn K mainGlobals "super" = some none)
    (z_tuple : PySem.W.nsIn K mainGlobals "tuple" = some none)
    (g_MOST_FAR : PySem.W.nsIn K mainGlobals "MOST_FAR" = some (some (.int 1000 t_MOST_FAR)))
    (g_MOST_POINTS : PySem.W.nsIn K mainGlobals "MOST_POINTS" = some (some (.int 8 t_MOST_POINTS)))
    (iI : PySem.W.nsIn K mainGlobals "HallError" = some (some (.ref cD)))
    (iF : PySem.W.findIn K (.ref cD) "__init__" = some (some (.ref fI)))
    (iL : K.lookup fI = some ⟨oci, odi, .func (PySem.W.ksFn "__init__" "HallError.__init__" xA xB xS .none .none doci pmi ani (.ref cda) cti cc), osli⟩)
    (iA : K.lookup cda = some ⟨ccl, cdd, .fields vsf, ccs⟩)
    (iV : vsf[2]? = some (.str file tf))
    (iE : ((PySem.Challenge.pw_farandnear_k56_whole_tables_taken_apart.main.file : Str) == file) = true)
    (iC : K.lookup cc = some ⟨cl, cld, .cell (some (.ref cD)), csl⟩)
    (iD : PySem.W.clsIn K cD = some cdD)
    (iS : (PySem.Challenge.pw_farandnear_k56_whole_tables_taken_apart.main.scope.names.lookup ("super" : Str)).isSome = false)
    (iK : PySem.W.codeIn K (.ref cda) "HallError.__init__" = true)
    (iT : PySem.W.nsIn K PySem.cStatics "thirdparty.any" = some none)
    (iY : PySem.W.typeIn K (.ref fI) = some (.type "function"))
    (xaTableError : PySem.W.nsIn K mainGlobals "TableError" = some (some (.ref CTableError)))
    (xlTableError : K.lookup CTableError = some (PySem.excClassObj nmTableError qnTableError CTableError NTableError bsTableError [.ref cD, .type "ValueError", .type "Exception", .type "BaseException", .type "object"] true snTableError subTableError abTableError coTableError ddTableError m0TableError m1TableError m2TableError m3TableError m5TableError "ValueError.__new__"))
    (xsTableError : PySem.W.findIn K (.ref CTableError) "__setattr__" = some (some (.builtin "object.__setattr__")))
    (xnTableError : PySem.W.findIn K (.ref CTableError) "code" = some none)
    (xiTableError : PySem.W.findIn K (.ref CTableError) "__init__" = some (some (.ref fI)))
    (xgTableError : PySem.W.findIn K (.ref CTableError) "__getattribute__" = some (some (.builtin "BaseException.__getattribute__")))
    (xhTableError : PySem.W.findIn K (.ref CTableError) "__getattr__" = some none)
    (xkTableError : PySem.W.keepIn K (.ref CTableError) = true)
    (xeTableError : PySem.W.subIn K (.ref CTableError) (.type "BaseException") = some true)
    (xvTableError : PySem.W.subIn K (.ref CTableError) (.type "ValueError") = some true)
    (xtTableError : PySem.W.typeIn K (.ref CTableError) = some (.type "type"))
    (xdTableError : PySem.W.hasDictIn K CTableError = true)
    (xmTableError : PySem.W.mroIn K CTableError (.ref cD) = some true)
    (xuTableError : PySem.W.ks_superIn K CTableError cD "__init__" = some (some (.builtin "ValueError.__init__"))) :
    ∃ fd : FuncData, (∀ (s : Shared) (v : Value), BindsTo s fd ⟨[v], []⟩ [("script", v)]) ∧ ∀ base : Heap, K.In base → base.Ns mainGlobals mg → FnOk PySem.Challenge.pw_farandnear_k56_whole_tables_taken_apart w K mg base CX0 9 fa fd ["script"] (spLaw K) := by
  have e := hfa.symm.trans (PySem.W.mg_of X G a23)
  cases e
  refine ⟨_, fun s v => .of_eq rfl, fun base _ _ => t_law (P := PySem.Challenge.pw_farandnear_k56_whole_tables_taken_apart) (w := w) (base := base) ?_ (fun_mk (st := s_law) l23 c23 k23) law_ok⟩
  exact {
    f_is_integer := ⟨⟨_, _, fun_mk (st := s_is_integer) l0 c0 k0, (fun_mk (st := s_is_integer) l0 c0 k0).binds (ps := ["value"]) (fun _ _ _ _ _ _ us hl => match us, hl with | [_], _ => rfl), PySem.W.mg_of X G a0⟩⟩
    f_check_table := ⟨⟨_, _, fun_mk (st := s_check_table) l1 c1 k1, (fun_mk (st := s_check_table) l1 c1 k1).binds (ps := ["table"]) (fun _ _ _ _ _ _ us hl => match us, hl with | [_], _ => rfl), PySem.W.mg_of X G a1⟩⟩
    f_choices := ⟨⟨_, _, fun_mk (st := s_choices) l2 c2 k2, (fun_mk (st := s_choices) l2 c2 k2).binds (ps := ["many", "size"]) (fun _ _ _ _ _ _ us hl => match us, hl with | [_, _], _ => rfl), PySem.W.mg_of X G a2⟩⟩
    f_distance_paper := ⟨⟨_, _, fun_mk (st := s_distance_paper) l3 c3 k3, (fun_mk (st := s_distance_paper) l3 c3 k3).binds (ps := ["table"]) (fun _ _ _ _ _ _ us hl => match us, hl with | [_], _ => rfl), PySem.W.mg_of X G a3⟩⟩
    f_check_distances := ⟨⟨_, _, fun_mk (st := s_check_distances) l4 c4 k4, (fun_mk (st := s_check_distances) l4 c4 k4).binds (ps := ["table"]) (fun _ _ _ _ _ _ us hl => match us, hl with | [_], _ => rfl), PySem.W.mg_of X G a4⟩⟩
    f_check_row := ⟨⟨_, _, fun_mk (st := s_check_row) l5 c5 k5, (fun_mk (st := s_check_row) l5 c5 k5).binds (ps := ["table", "row"]) (fun _ _ _ _ _ _ us hl => match us, hl with | [_, _], _ => rfl), PySem.W.mg_of X G a5⟩⟩
    f_more_paper := ⟨⟨_, _, fun_mk (st := s_more_paper) l6 c6 k6, (fun_mk (st := s_more_paper) l6 c6 k6).binds (ps := ["table", "row"]) (fun _ _ _ _ _ _ us hl => match us, hl with | [_, _], _ => rfl), PySem.W.mg_of X G a6⟩⟩
    f_with_point := ⟨⟨_, _, fun_mk (st := s_with_point) l7 c7 k7, (fun_mk (st := s_with_point) l7 c7 k7).binds (ps := ["table", "row"]) (fun _ _ _ _ _ _ us hl => match us, hl with | [_, _], _ => rfl), PySem.W.mg_of X G a7⟩⟩
    f_check_shared := ⟨⟨_, _, fun_mk (st := s_check_shared) l8 c8 k8, (fun_mk (st := s_check_shared) l8 c8 k8).binds (ps := ["table", "other", "many"]) (fun _ _ _ _ _ _ us hl => match us, hl with | [_, _, _], _ => rfl), PySem.W.mg_of X G a8⟩⟩
    f_step := ⟨⟨_, _, fun_mk (st := s_step) l9 c9 k9, (fun_mk (st := s_step) l9 c9 k9).binds (ps := ["table", "other", "many", "one", "to"]) (fun _ _ _ _ _ _ us hl => match us, hl with | [_, _, _, _, _], _ => rfl), PySem.W.mg_of X G a9⟩⟩
    f_glued := ⟨⟨_, _, fun_mk (st := s_glued) l10 c10 k10, (fun_mk (st := s_glued) l10 c10 k10).binds (ps := ["table", "other", "many"]) (fun _ _ _ _ _ _ us hl => match us, hl with | [_, _, _], _ => rfl), PySem.W.mg_of X G a10⟩⟩
    f_gap := ⟨⟨_, _, fun_mk (st := s_gap) l11 c11 k11, (fun_mk (st := s_gap) l11 c11 k11).binds (ps := ["table", "other", "many", "one", "to"]) (fun _ _ _ _ _ _ us hl => match us, hl with | [_, _, _, _, _], _ => rfl), PySem.W.mg_of X G a11⟩⟩
    f_least_glued := ⟨⟨_, _, fun_mk (st := s_least_glued) l12 c12 k12, (fun_mk (st := s_least_glued) l12 c12 k12).binds (ps := ["table", "other", "many"]) (fun _ _ _ _ _ _ us hl => match us, hl with | [_, _, _], _ => rfl), PySem.W.mg_of X G a12⟩⟩
    f__law_begin := ⟨⟨_, _, fun_mk (st := s__law_begin) l13 c13 k13, (fun_mk (st := s__law_begin) l13 c13 k13).binds (ps := ["script"]) (fun _ _ _ _ _ _ us hl => match us, hl with | [_], _ => rfl), PySem.W.mg_of X G a13⟩⟩
    f__law_take := ⟨⟨_, _, fun_mk (st := s__law_take) l14 c14 k14, (fun_mk (st := s__law_take) l14 c14 k14).binds (ps := ["d", "many"]) (fun _ _ _ _ _ _ us hl => match us, hl with | [_, _], _ => rfl), PySem.W.mg_of X G a14⟩⟩
    f__law_shuffled := ⟨⟨_, _, fun_mk (st := s__law_shuffled) l15 c15 k15, (fun_mk (st := s__law_shuffled) l15 c15 k15).binds (ps := ["d", "n"]) (fun _ _ _ _ _ _ us hl => match us, hl with | [_, _], _ => rfl), PySem.W.mg_of X G a15⟩⟩
    f__law_tree := ⟨⟨_, _, fun_mk (st := s__law_tree) l16 c16 k16, (fun_mk (st := s__law_tree) l16 c16 k16).binds (ps := ["d", "n", "more", "top"]) (fun _ _ _ _ _ _ us hl => match us, hl with | [_, _, _, _], _ => rfl), PySem.W.mg_of X G a16⟩⟩
    f__law_along := ⟨⟨_, _, fun_mk (st := s__law_along) l17 c17 k17, (fun_mk (st := s__law_along) l17 c17 k17).binds (ps := ["joints", "edges"]) (fun _ _ _ _ _ _ us hl => match us, hl with | [_, _], _ => rfl), PySem.W.mg_of X G a17⟩⟩
    f__law_table := ⟨⟨_, _, fun_mk (st := s__law_table) l18 c18 k18, (fun_mk (st := s__law_table) l18 c18 k18).binds (ps := ["d", "n", "top"]) (fun _ _ _ _ _ _ us hl => match us, hl with | [_, _, _], _ => rfl), PySem.W.mg_of X G a18⟩⟩
    f__law_short := ⟨⟨_, _, fun_mk (st := s__law_short) l19 c19 k19, (fun_mk (st := s__law_short) l19 c19 k19).binds (ps := ["table"]) (fun _ _ _ _ _ _ us hl => match us, hl with | [_], _ => rfl), PySem.W.mg_of X G a19⟩⟩
    f__law_pick := ⟨⟨_, _, fun_mk (st := s__law_pick) l20 c20 k20, (fun_mk (st := s__law_pick) l20 c20 k20).binds (ps := ["d", "menu"]) (fun _ _ _ _ _ _ us hl => match us, hl with | [_, _], _ => rfl), PySem.W.mg_of X G a20⟩⟩
    f__law_distances := ⟨⟨_, _, fun_mk (st := s__law_distances) l21 c21 k21, (fun_mk (st := s__law_distances) l21 c21 k21).binds (ps := ["d", "n"]) (fun _ _ _ _ _ _ us hl => match us, hl with | [_, _], _ => rfl), PySem.W.mg_of X G a21⟩⟩
    f__law_part := ⟨⟨_, _, fun_mk (st := s__law_part) l22 c22 k22, (fun_mk (st := s__law_part) l22 c22 k22).binds (ps := ["table", "part"]) (fun _ _ _ _ _ _ us hl => match us, hl with | [_, _], _ => rfl), PySem.W.mg_of X G a22⟩⟩
    z_abs := PySem.W.mg_none_of X G z_abs
    z_any := PySem.W.mg_none_of X G z_any
    z_bool := PySem.W.mg_none_of X G z_bool
    z_enumerate := PySem.W.mg_none_of X G z_enumerate
    z_int := PySem.W.mg_none_of X G z_int
    z_isinstance := PySem.W.mg_none_of X G z_isinstance
    z_len := PySem.W.mg_none_of X G z_len
    z_list := PySem.W.mg_none_of X G z_list
    z_max := PySem.W.mg_none_of X G z_max
    z_min := PySem.W.mg_none_of X G z_min
    z_range := PySem.W.mg_none_of X G z_range
    z_sorted := PySem.W.mg_none_of X G z_sorted
    z_super := PySem.W.mg_none_of X G z_super
    z_tuple := PySem.W.mg_none_of X G z_tuple
    k_MOST_FAR := ⟨_, PySem.W.mg_of X G g_MOST_FAR⟩
    k_MOST_POINTS := ⟨_, PySem.W.mg_of X G g_MOST_POINTS⟩
    x_TableError := ⟨⟨CTableError, fI, "HallError.__init__", PySem.W.mg_of X G xaTableError, { cls := ⟨_, _, _, _, _, _, _, _, _, _, _, _, _, _, _, xlTableError, rfl⟩, sa := xsTableError, noN := xnTableError, iC := xiTableError, tC := iY, kC := xkTableError, exC := xeTableError, veC := xvTableError, tyC := xtTableError, tp := iT, sup := z_super, file := ⟨cD, cda, cc, _, _, _, _, _, _, _, _, _, _, _, _, _, _, _, _, _, iA, iV, iE, iC, iD, xmTableError, xuTableError, iS, iL, iK⟩ }, { ga := xgTableError, gg := xhTableError, exC := xeTableError, hdC := xdTableError }⟩⟩
  }
end G
end Fx
open PySem PySem.W PyProof.Rows
set_option maxHeartbeats 0 in
theorem PySem.Challenge.cw_farandnear_k56_whole_tables_taken_apart_holds : PySem.Challenge.rw_farandnear_k56_whole_tables_taken_apart.Holds := by
  w_on; o_law; k_head; (case hw => w_witness2)
  k_fill
  refine L2.walk_of (l := PySem.Challenge.rw_farandnear_k56_whole_tables_taken_apart) (n := 63) (k := 9) (x := "script") (CX := fun _ => L2.CX0) (sp := fun w => Fx.spLaw _) rfl (by decide) rfl ⟨rfl, by decide, by decide⟩ (fun w h Y => PySem.W.kIn_of Y) ?F (fun _ _ a ns hl ho hS => ⟨a, ns, rfl, hS, hl, ho, fun _ => rfl⟩) (fun _ _ _ _ _ h => h)
  case F =>
    intro w mg fa h KX G hmg
    refine' Fx.G.all_mk KX G hmg ?a0 ?l0 ?c0 ?k0 ?a1 ?l1 ?c1 ?k1 ?a2 ?l2 ?c2 ?k2 ?a3 ?l3 ?c3 ?k3 ?a4 ?l4 ?c4 ?k4 ?a5 ?l5 ?c5 ?k5 ?a6 ?l6 ?c6 ?k6 ?a7 ?l7 ?c7 ?k7 ?a8 ?l8 ?c8 ?k8 ?a9 ?l9 ?c9 ?k9 ?a10 ?l10 ?c10 ?k10 ?a11 ?l11 ?c11 ?k11 ?a12 ?l12 ?c12 ?k12 ?a13 ?l13 ?c13 ?k13 ?a14 ?l14 ?c14 ?k14 ?a15 ?l15 ?c15 ?k15 ?a16 ?l16 ?c16 ?k16 ?a17 ?l17 ?c17 ?k17 ?a18 ?l18 ?c18 ?k18 ?a19 ?l19 ?c19 ?k19 ?a20 ?l20 ?c20 ?k20 ?a21 ?l21 ?c21 ?k21 ?a22 ?l22 ?c22 ?k22 ?a23 ?l23 ?c23 ?k23 ?z_abs ?z_any ?z_bool ?z_enumerate ?z_int ?z_isinstance ?z_len ?z_list ?z_max ?z_min ?z_range ?z_sorted ?z_super ?z_tuple ?g_MOST_FAR ?g_MOST_POINTS ?iI ?iF ?iL ?iA ?iV ?iE ?iC ?iD ?iS ?iK ?iT ?iY ?xaTableError ?xlTableError ?xsTableError ?xnTableError ?xiTableError ?xgTableError ?xhTableError ?xkTableError ?xeTableError ?xvTableError ?xtTableError ?xdTableError ?xmTableError ?xuTableError
    (case a0 => k_is)
    (case l0 => k_is)
    (case c0 => k_is)
    (case k0 => k_is)
    (case a1 => k_is)
    (case l1 => k_is)
    (case c1 => k_is)
    (case k1 => k_is)
    (case a2 => k_is)
    (case l2 => k_is)
    (case c2 => k_is)
    (case k2 => k_is)
    (case a3 => k_is)
    (case l3 => k_is)
    (case c3 => k_is)
    (case k3 => k_is)
    (case a4 => k_is)
    (case l4 => k_is)
    (case c4 => k_is)
    (case k4 => k_is)
    (case a5 => k_is)
    (case l5 => k_is)
    (case c5 => k_is)
    (case k5 => k_is)
    (case a6 => k_is)
    (case l6 => k_is)
    (case c6 => k_is)
    (case k6 => k_is)
    (case a7 => k_is)
    (case l7 => k_is)
    (case c7 => k_is)
    (case k7 => k_is)
    (case a8 => k_is)
    (case l8 => k_is)
    (case c8 => k_is)
    (case k8 => k_is)
    (case a9 => k_is)
    (case l9 => k_is)
    (case c9 => k_is)
    (case k9 => k_is)
    (case a10 => k_is)
    (case l10 => k_is)
    (case c10 => k_is)
    (case k10 => k_is)
    (case a11 => k_is)
    (case l11 => k_is)
    (case c11 => k_is)
    (case k11 => k_is)
    (case a12 => k_is)
    (case l12 => k_is)
    (case c12 => k_is)
    (case k12 => k_is)
    (case a13 => k_is)
    (case l13 => k_is)
    (case c13 => k_is)
    (case k13 => k_is)
    (case a14 => k_is)
    (case l14 => k_is)
    (case c14 => k_is)
    (case k14 => k_is)
    (case a15 => k_is)
    (case l15 => k_is)
    (case c15 => k_is)
    (case k15 => k_is)
    (case a16 => k_is)
    (case l16 => k_is)
    (case c16 => k_is)
    (case k16 => k_is)
    (case a17 => k_is)
    (case l17 => k_is)
    (case c17 => k_is)
    (case k17 => k_is)
    (case a18 => k_is)
    (case l18 => k_is)
    (case c18 => k_is)
    (case k18 => k_is)
    (case a19 => k_is)
    (case l19 => k_is)
    (case c19 => k_is)
    (case k19 => k_is)
    (case a20 => k_is)
    (case l20 => k_is)
    (case c20 => k_is)
    (case k20 => k_is)
    (case a21 => k_is)
    (case l21 => k_is)
    (case c21 => k_is)
    (case k21 => k_is)
    (case a22 => k_is)
    (case l22 => k_is)
    (case c22 => k_is)
    (case k22 => k_is)
    (case a23 => k_is)
    (case l23 => k_is)
    (case c23 => k_is)
    (case k23 => k_is)
    (case z_abs => k_is)
    (case z_any => k_is)
    (case z_bool => k_is)
    (case z_enumerate => k_is)
    (case z_int => k_is)
    (case z_isinstance => k_is)
    (case z_len => k_is)
    (case z_list => k_is)
    (case z_max => k_is)
    (case z_min => k_is)
    (case z_range => k_is)
    (case z_sorted => k_is)
    (case z_super => k_is)
    (case z_tuple => k_is)
    (case g_MOST_FAR => k_is)
    (case g_MOST_POINTS => k_is)
    (case iI => k_is)
    (case iF => k_is)
    (case iL => k_is)
    (case iA => k_is)
    (case iV => first | rfl | k_is)
    (case iE => first | rfl | decide | k_is)
    (case iC => k_is)
    (case iD => first | k_is | rfl)
    (case iS => first | decide +kernel | rfl)
    (case iK => k_is)
    (case iT => k_is)
    (case iY => k_is)
    (case xaTableError => k_is)
    (case xlTableError => k_is)
    (case xsTableError => k_is)
    (case xnTableError => k_is)
    (case xiTableError => k_is)
    (case xgTableError => k_is)
    (case xhTableError => k_is)
    (case xkTableError => k_is)
    (case xeTableError => k_is)
    (case xvTableError => k_is)
    (case xtTableError => k_is)
    (case xdTableError => k_is)
    (case xmTableError => k_is)
    (case xuTableError => first | k_is | rfl)
