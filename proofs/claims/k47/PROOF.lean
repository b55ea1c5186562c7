import PyProof.Rows.All
import Wide.All
import OpenK.AllK
import Wide.FinOn
import HandS.ForMost
import HandS.ForExc
import HandS.Wide
import HandS.IsInst
import HandS.Zip
import HandS.Style
import HandS.TupAny
import HandS.TupMul
import HandS.Conv
import HandS.CallSlots
import KE.DataEq
import KE.DataIsa
import KE.DataAny
import KE.DataMinMax
import PyProof.SumAny
import KE.GoesMore
import KE.KExcSuper
import KE.KSuper
import HandS.ExcField
import KE.SortData
import KE.DataFind
import HandS.Strs
import HandS.Sort
import HandS.TryOnly
import HandS.SetFor
import HandS.TupSets
import KE.KRevSl
import HandS.Dict
import PySem.Challenge.RW_farandnear_k47_whole_turned_and_joined_w
section
/-! Dat: plain data for a small part of Python, its results, and the meaning of each construct as a plain Lean function. No model in sight. -/
namespace Fx

/-- data that nobody changes: lst is a list that is only read -/
inductive D where
  | non | bl (b : Bool) | int (i : Int) | str (s : String) | tup (l : List D) | lst (l : List D)

/-- what a name may hold: data; a list of one's own; a list of one's own lists; a dict of one's own -/
inductive Vl where
  | v (d : D) | o (l : List D) | oo (l : List (List D)) | dc (l : List (D × D)) | rg (lo hi : Int)

/-- an error: its class, its fields -/
structure Ex where
  cls : String
  fs : List (String × D)

abbrev En := List (Option Vl)

/-- what an expression comes to -/
inductive Rs (α : Type) where
  | ok (a : α) (e : En) | ex (x : Ex) (e : En) | bad

abbrev M (α : Type) := En → Rs α

/-- what a statement comes to -/
inductive Out where
  | nxt (e : En) | ret (x : Vl) (e : En) | brk (e : En) | cnt (e : En) | ex (x : Ex) (e : En) | bad

abbrev C := En → Out

/-- a def: its arguments to what it hands back and what its lent arguments hold then -/
inductive Fr where
  | ok (x : Vl) (outs : List Vl) | ex (x : Ex) | bad

abbrev F := List Vl → Fr

def Vl.d : Vl → Option D
  | .v d => some d
  | .o l => some (.lst l)
  | .oo l => some (.lst (l.map .lst))
  | .dc _ => none
  | .rg _ _ => none

/-- no lists of one's own lists, no dict -/
def Vl.flat : Vl → Bool
  | .oo _ => false
  | .dc _ => false
  | .rg _ _ => false
  | _ => true

def b2i (b : Bool) : Int := if b then 1 else 0

mutual
def D.eq : D → D → Bool
  | .non, .non => true
  | .bl a, .bl b => a == b
  | .bl a, .int j => decide (b2i a = j)
  | .int i, .bl b => decide (i = b2i b)
  | .int i, .int j => decide (i = j)
  | .str a, .str b => decide (a = b)
  | .tup l, .tup m => D.eqs l m
  | .lst l, .lst m => D.eqs l m
  | _, _ => false
def D.eqs : List D → List D → Bool
  | [], [] => true
  | a :: l, b :: m => D.eq a b && D.eqs l m
  | _, _ => false
end

mutual
def D.dep : D → Nat
  | .tup l => D.deps l + 1
  | .lst l => D.deps l + 1
  | _ => 0
def D.deps : List D → Nat
  | [] => 0
  | a :: l => max (D.dep a) (D.deps l)
end

def lim : Nat := 16777216

/-- an int's product is small enough -/
def mulOk (i j : Int) : Bool := (decide (i.natAbs < 2 ^ 64) || decide (j.natAbs < 2 ^ 64)) || decide (i.natAbs.log2 + j.natAbs.log2 < 1000000)
/-- a positive divisor -/
def divOk (j : Int) : Bool := decide (0 < j) && decide (j.natAbs.log2 < 9000)

@[simp] def Rs.then {α β : Type} (r : Rs α) (f : α → En → Rs β) : Rs β :=
  match r with
  | .ok a e => f a e
  | .ex x e => .ex x e
  | .bad => .bad

/-- a machine's number (asked in a way that the kernel does not walk) -/
def smallI (i : Int) : Bool := decide (i.natAbs.log2 < 61)
theorem small_of {i : Int} (h : smallI i = true) : -4611686018427387904 ≤ i ∧ i < 4611686018427387904 := by
  unfold smallI at h
  have h1 := of_decide_eq_true h
  by_cases hz : i.natAbs = 0
  · omega
  · have h2 := (Nat.log2_lt hz).mp h1
    omega
theorem small_le {i : Int} (h : i.natAbs ≤ 1000000) : smallI i = true := by
  unfold smallI
  refine decide_eq_true ?_
  by_cases hz : i.natAbs = 0
  · rw [hz]; decide
  · exact (Nat.log2_lt hz).mpr (by omega)

def lift {α : Type} (o : Option α) (e : En) : Rs α := match o with
  | some a => .ok a e
  | none => .bad

/-! ### expressions -/
def eC (d : D) : M Vl := fun e => .ok (.v d) e
/-- a name, its value taken: a list of one's own is lent to reading for good -/
def eV (i : Nat) : M Vl := fun e => match e[i]? with
  | some (some (.v d)) => .ok (.v d) e
  | some (some (.o l)) => .ok (.v (.lst l)) (e.set i (some (.v (.lst l))))
  | some (some (.oo l)) => .ok (.v (.lst (l.map .lst))) (e.set i (some (.v (.lst (l.map .lst)))))
  | _ => .bad
/-- a name that is only looked at -/
def eP (i : Nat) : M Vl := fun e => match e[i]? with
  | some (some x) => if x.flat then lift (x.d.map .v) e else .bad
  | _ => .bad
def e1 (f : Vl → Option Vl) (a : M Vl) : M Vl := fun e => (a e).then fun x e => lift (f x) e
def e2 (f : Vl → Vl → Option Vl) (a b : M Vl) : M Vl := fun e => (a e).then fun x e => (b e).then fun y e => lift (f x y) e

def oAdd : Vl → Vl → Option Vl
  | .v (.int i), .v (.int j) => some (.v (.int (i + j)))
  | .v (.tup l), .v (.tup m) => if l.length + m.length ≤ lim then some (.v (.tup (l ++ m))) else none
  | .v (.lst l), .v (.lst m) => if l.length + m.length ≤ lim then some (.o (l ++ m)) else none
  | .v (.lst l), .o m => if l.length + m.length ≤ lim then some (.o (l ++ m)) else none
  | .o l, .v (.lst m) => if l.length + m.length ≤ lim then some (.o (l ++ m)) else none
  | .o l, .o m => if l.length + m.length ≤ lim then some (.o (l ++ m)) else none
  | _, _ => none
def oSub : Vl → Vl → Option Vl
  | .v (.int i), .v (.int j) => some (.v (.int (i - j)))
  | _, _ => none
def oMul : Vl → Vl → Option Vl
  | .v (.int i), .v (.int j) => if mulOk i j then some (.v (.int (i * j))) else none
  | .v (.tup l), .v (.int j) => if l ≠ [] ∧ 0 ≤ j ∧ j ≤ 1000 ∧ l.length ≤ 1000 then some (.v (.tup (List.replicate j.toNat l).flatten)) else none
  | .o l, .v (.int j) => if smallI j = true ∧ l.length * j.toNat ≤ lim then some (.o (List.replicate j.toNat l).flatten) else none
  | _, _ => none
def oMod : Vl → Vl → Option Vl
  | .v (.int i), .v (.int j) => if 0 < j then some (.v (.int (i % j))) else none
  | _, _ => none
def oDiv : Vl → Vl → Option Vl
  | .v (.int i), .v (.int j) => if divOk j then some (.v (.int (i / j))) else none
  | _, _ => none
def oPow : Vl → Vl → Option Vl
  | .v (.int i), .v (.int j) => if 0 ≤ j ∧ j ≤ 1000000 ∧ i.natAbs < 2 ^ 64 then some (.v (.int (i ^ j.toNat))) else none
  | _, _ => none
def oNeg : Vl → Option Vl
  | .v (.int i) => some (.v (.int (-i)))
  | _ => none
def oLt : Vl → Vl → Option Vl
  | .v (.int i), .v (.int j) => some (.v (.bl (decide (i < j))))
  | _, _ => none
def oLe : Vl → Vl → Option Vl
  | .v (.int i), .v (.int j) => some (.v (.bl (decide (i ≤ j))))
  | _, _ => none
def oGt : Vl → Vl → Option Vl
  | .v (.int i), .v (.int j) => some (.v (.bl (decide (j < i))))
  | _, _ => none
def oGe : Vl → Vl → Option Vl
  | .v (.int i), .v (.int j) => some (.v (.bl (decide (j ≤ i))))
  | _, _ => none
def Vl.eq (x y : Vl) : Option Bool := match x.d, y.d with
  | some a, some b => if min a.dep b.dep ≤ 64 then some (D.eq a b) else none
  | _, _ => none
def oEq (x y : Vl) : Option Vl := (Vl.eq x y).map fun b => .v (.bl b)
def oNe (x y : Vl) : Option Vl := (Vl.eq x y).map fun b => .v (.bl (!b))
def D.items : D → Option (List D)
  | .tup l => some l
  | .lst l => some l
  | _ => none
def Vl.items : Vl → Option (List D)
  | .v d => d.items
  | .o l => some l
  | _ => none
def inD (a : D) (l : List D) : Bool := l.any fun y => D.eq y a
def oIn (x y : Vl) : Option Vl := match x.d, y.items with
  | some a, some l => if a.dep ≤ 64 then some (.v (.bl (inD a l))) else none
  | _, _ => none
def oNotIn (x y : Vl) : Option Vl := match x.d, y.items with
  | some a, some l => if a.dep ≤ 64 then some (.v (.bl (!inD a l))) else none
  | _, _ => none
def D.isNon : D → Bool
  | .non => true
  | _ => false
def oIsN (x : Vl) : Option Vl := x.d.map fun a => .v (.bl a.isNon)
def oNotN (x : Vl) : Option Vl := x.d.map fun a => .v (.bl (!a.isNon))
def oIsB (c : Bool) : Vl → Option Vl
  | .v (.bl a) => some (.v (.bl (decide (a = c))))
  | _ => none
def oNotB (c : Bool) : Vl → Option Vl
  | .v (.bl a) => some (.v (.bl (!decide (a = c))))
  | _ => none

/-! tests -/
def Vl.bool : Vl → Option Bool
  | .v (.bl b) => some b
  | _ => none
def Vl.truth : Vl → Option Bool
  | .v (.bl b) => some b
  | .v .non => some false
  | .v (.int i) => some (decide (i ≠ 0))
  | .v (.tup l) => some (!l.isEmpty)
  | .v (.lst l) => some (!l.isEmpty)
  | .o l => some (!l.isEmpty)
  | _ => none
def tB (a : M Vl) : M Bool := fun e => (a e).then fun x e => lift x.bool e
def tT (a : M Vl) : M Bool := fun e => (a e).then fun x e => lift x.truth e
def tAnd (a b : M Bool) : M Bool := fun e => (a e).then fun c e => if c then b e else .ok false e
def tOr (a b : M Bool) : M Bool := fun e => (a e).then fun c e => if c then .ok true e else b e
def tNot (a : M Bool) : M Bool := fun e => (a e).then fun c e => .ok (!c) e
/-- a test's answer as a value -/
def eB (a : M Bool) : M Vl := fun e => (a e).then fun c e => .ok (.v (.bl c)) e
def eIf (t : M Bool) (a b : M Vl) : M Vl := fun e => (t e).then fun c e => if c then a e else b e

/-! displays -/
def eNil : M (List D) := fun e => .ok [] e
def eCons (a : M Vl) (r : M (List D)) : M (List D) := fun e => (a e).then fun x e => match x.d with
  | some d => (r e).then fun ds e => .ok (d :: ds) e
  | none => .bad
def eTup (r : M (List D)) : M Vl := fun e => (r e).then fun ds e => .ok (.v (.tup ds)) e
def eLst (r : M (List D)) : M Vl := fun e => (r e).then fun ds e => .ok (.o ds) e

/-! places -/
def ixN (n : Nat) (i : Int) : Option Nat := if 0 ≤ i then (if i < n then some i.toNat else none) else if -(n : Int) ≤ i then some (i + n).toNat else none
def atD {α : Type} (l : List α) (i : Int) : Option α := (ixN l.length i).bind fun j => l[j]?
def oIx (x y : Vl) : Option Vl := match x.items, y with
  | some l, .v (.int i) => (atD l i).map .v
  | _, _ => none
/-- x[i], x a name that is only looked at, behind i -/
def eIxP (k : Nat) (b : M Vl) : M Vl := fun e => match e[k]? with
  | some (some _) => (b e).then fun y e => (match e[k]? with
    | some (some x) => lift (oIx x y) e
    | _ => .bad)
  | _ => .bad
/-! whole numbers that change nothing -/
abbrev N := En → Option Int
def nI (i : Int) : N := fun _ => some i
def nV (k : Nat) : N := fun e => match e[k]? with
  | some (some (.v (.int i))) => some i
  | _ => none
def nAdd (a b : N) : N := fun e => (a e).bind fun i => (b e).map fun j => i + j
def nSub (a b : N) : N := fun e => (a e).bind fun i => (b e).map fun j => i - j
def nNeg (a : N) : N := fun e => (a e).map fun i => -i
/-- x[i][j], x a name that holds a list of one's own lists -/
def eIxPP (k : Nat) (a b : N) : M Vl := fun e => match e[k]?, a e, b e with
  | some (some (.oo l)), some i, some j => lift (((atD l i).bind fun r => atD r j).map .v) e
  | _, _, _ => .bad
/-- len(x), x a name that holds a list of one's own lists -/
def eLenO (k : Nat) : M Vl := fun e => match e[k]? with
  | some (some (.oo l)) => .ok (.v (.int l.length)) e
  | _ => .bad
def sIx (n d : Nat) : Option Int → Nat
  | none => d
  | some v => if v < 0 then (v + n).toNat else min v.toNat n
def cutL {α : Type} (l : List α) (lo hi : Option Int) : List α := (l.drop (sIx l.length 0 lo)).take (sIx l.length l.length hi - sIx l.length 0 lo)
def pNo : M (Option Int) := fun e => .ok none e
def Vl.int : Vl → Option Int
  | .v (.int i) => some i
  | _ => none
def pSome (a : M Vl) : M (Option Int) := fun e => (a e).then fun x e => lift (x.int.map some) e
def oCut (x : Vl) (lo hi : Option Int) : Option Vl := match x with
  | .v (.tup l) => some (.v (.tup (cutL l lo hi)))
  | .v (.lst l) => some (.o (cutL l lo hi))
  | .o l => some (.o (cutL l lo hi))
  | _ => none
def eCut (a : M Vl) (lo hi : M (Option Int)) : M Vl := fun e => (a e).then fun x e => (lo e).then fun l e => (hi e).then fun h e => lift (oCut x l h) e
def oRev : Vl → Option Vl
  | .v (.tup l) => some (.v (.tup l.reverse))
  | .v (.lst l) => some (.o l.reverse)
  | .o l => some (.o l.reverse)
  | _ => none

/-! built-ins -/
def oLen (x : Vl) : Option Vl := x.items.map fun l => .v (.int l.length)
def oTuple (x : Vl) : Option Vl := x.items.map fun l => .v (.tup l)
def oList (x : Vl) : Option Vl := x.items.map fun l => .o l
def oInt : Vl → Option Vl
  | .v (.int i) => some (.v (.int i))
  | .v (.bl b) => some (.v (.int (b2i b)))
  | _ => none
def oAbs : Vl → Option Vl
  | .v (.int i) => some (.v (.int (if i < 0 then -i else i)))
  | _ => none
def D.bools : List D → Option (List Bool)
  | [] => some []
  | .bl b :: l => (D.bools l).map (b :: ·)
  | _ => none
def D.ints : List D → Option (List Int)
  | [] => some []
  | .int i :: l => (D.ints l).map (i :: ·)
  | _ => none
/-- machine's numbers -/
def D.smalls : List D → Option (List Int)
  | [] => some []
  | .int i :: l => if smallI i then (D.smalls l).map (i :: ·) else none
  | _ => none
def oAnyI (x : Vl) : Option Vl := (x.items.bind D.smalls).map fun l => .v (.bl (l.any fun i => decide (i ≠ 0)))
def oAny (x : Vl) : Option Vl := (x.items.bind D.bools).map fun l => .v (.bl (l.any id))
def oAll (x : Vl) : Option Vl := (x.items.bind D.bools).map fun l => .v (.bl (l.all id))
def oSum (x : Vl) : Option Vl := (x.items.bind D.ints).map fun l => .v (.int l.sum)
def maxL : List Int → Option Int
  | [] => none
  | a :: l => some (l.foldl max a)
def minL : List Int → Option Int
  | [] => none
  | a :: l => some (l.foldl min a)
def oMaxL (x : Vl) : Option Vl := ((x.items.bind D.ints).bind maxL).map fun i => .v (.int i)
def oMinL (x : Vl) : Option Vl := ((x.items.bind D.ints).bind minL).map fun i => .v (.int i)
def oMax2 : Vl → Vl → Option Vl
  | .v (.int i), .v (.int j) => some (.v (.int (if i < j then j else i)))
  | _, _ => none
def oMin2 : Vl → Vl → Option Vl
  | .v (.int i), .v (.int j) => some (.v (.int (if j < i then j else i)))
  | _, _ => none
inductive Ty where
  | tInt | tBool | tStr | tTuple | tList
def D.isA : Ty → D → Bool
  | .tInt, .int _ => true
  | .tInt, .bl _ => true
  | .tBool, .bl _ => true
  | .tStr, .str _ => true
  | .tTuple, .tup _ => true
  | .tList, .lst _ => true
  | _, _ => false
def oIsA (t : Ty) (x : Vl) : Option Vl := x.d.map fun a => .v (.bl (a.isA t))

/-- x is y -/
def oIs : Vl → Vl → Option Vl
  | x, .v .non => oIsN x
  | .v (.bl a), .v (.bl c) => some (.v (.bl (decide (a = c))))
  | _, _ => none
def oIsNot : Vl → Vl → Option Vl
  | x, .v .non => oNotN x
  | .v (.bl a), .v (.bl c) => some (.v (.bl (!decide (a = c))))
  | _, _ => none
/-- a op b op' c, b data -/
def eChain (f g : Vl → Vl → Option Vl) (a b c : M Vl) : M Vl := fun e => (a e).then fun x e => (b e).then fun y e => match y, f x y with
  | .v _, some (.v (.bl true)) => (c e).then fun z e => lift (g y z) e
  | .v _, some (.v (.bl false)) => .ok (.v (.bl false)) e
  | _, _ => .bad
/-- sorted(..) of whole numbers -/
def oSortI (x : Vl) : Option Vl := (x.items.bind D.ints).map fun l => .o ((l.mergeSort fun a b => decide (a ≤ b)).map .int)
def tiD (r : List Int) : D := .tup (r.map .int)
/-- rows (tuples) of whole numbers, none empty -/
def D.introws : List D → Option (List (List Int))
  | [] => some []
  | .tup (d :: m) :: l => match D.ints (d :: m), D.introws l with
    | some ns, some rs => some (ns :: rs)
    | _, _ => none
  | _ => none
def oSortT (x : Vl) : Option Vl := (x.items.bind D.introws).map fun rs => .o ((rs.mergeSort fun a b => decide (a ≤ b)).map tiD)
def oSort (x : Vl) : Option Vl := match oSortI x with
  | some z => some z
  | none => oSortT x
def fIx (l : List D) (d : D) : Option D := (l.findIdx? fun z => D.eq z d).map fun (i : Nat) => D.int (i : Int)
def fCt (l : List D) (d : D) : Option D := some (.int ((l.countP fun z => D.eq z d : Nat) : Int))
def kMet (f : List D → D → Option D) (l : List D) (y : Vl) : M Vl := fun e => match y.d with
  | some d => if d.dep ≤ 60 then lift ((f l d).map .v) e else .bad
  | none => .bad
def kMetT (f : List D → D → Option D) (b : M Vl) (x : Vl) : M Vl := fun e => match x with
  | .v (.tup l) => (b e).then fun y e => kMet f l y e
  | _ => .bad
/-- x.m(y), x a tuple -/
def eMetT (f : List D → D → Option D) (a b : M Vl) : M Vl := fun e => (a e).then (kMetT f b)
def Vl.lst? : Vl → Option (List D)
  | .v (.lst l) => some l
  | .o l => some l
  | _ => none
def kMetL (f : List D → D → Option D) (b : M Vl) (x : Vl) : M Vl := fun e => match x.lst? with
  | some l => (b e).then fun y e => kMet f l y e
  | none => .bad
/-- x.m(y), x a list -/
def eMetL (f : List D → D → Option D) (a b : M Vl) : M Vl := fun e => (a e).then (kMetL f b)
def eAnd (a b : M Vl) : M Vl := fun e => (a e).then fun x e => match x.bool with
  | some true => b e
  | some false => .ok (.v (.bl false)) e
  | none => .bad
def eOr (a b : M Vl) : M Vl := fun e => (a e).then fun x e => match x.bool with
  | some true => .ok (.v (.bl true)) e
  | some false => b e
  | none => .bad
def oNot (x : Vl) : Option Vl := x.bool.map fun c => .v (.bl (!c))
def eCode (x : Ex) : M Vl := fun e => match x.fs with
  | [("code", d)] => .ok (.v d) e
  | _ => .bad
/-! what is walked -/
def iL (a : M Vl) : M (List D) := fun e => (a e).then fun x e => lift x.items e
def rng (lo : Int) (n : Nat) : List D := (List.range n).map fun (k : Nat) => .int (lo + (k : Int))
def iR1 (a : M Vl) : M (List D) := fun e => (a e).then fun x e => match x with
  | .v (.int j) => if smallI j then .ok (rng 0 j.toNat) e else .bad
  | _ => .bad
def iR2 (a b : M Vl) : M (List D) := fun e => (a e).then fun x e => (b e).then fun y e => match x, y with
  | .v (.int i), .v (.int j) => if smallI i && smallI j then .ok (rng i (j - i).toNat) e else .bad
  | _, _ => .bad
/-- range(..) as a value -/
def oRg : Vl → Option Vl
  | .v (.int j) => if smallI j then some (.rg 0 j) else none
  | _ => none
/-- a name that holds a range is walked -/
def iRv (k : Nat) : M (List D) := fun e => match e[k]? with
  | some (some (.rg lo hi)) => if smallI lo && smallI hi then .ok (rng lo (hi - lo).toNat) e else .bad
  | _ => .bad
def rgOk (i j : Int) : Bool := smallI i && smallI j && decide ((j - i).toNat ≤ lim)
/-- list(range(..)), tuple(range(..)) -/
def kLr1 (x : Vl) : M Vl := fun e => match x with
  | .v (.int j) => if rgOk 0 j then .ok (.o (rng 0 j.toNat)) e else .bad
  | _ => .bad
def eLr1 (a : M Vl) : M Vl := fun e => (a e).then kLr1
def kLr2 (x y : Vl) : M Vl := fun e => match x, y with
  | .v (.int i), .v (.int j) => if rgOk i j then .ok (.o (rng i (j - i).toNat)) e else .bad
  | _, _ => .bad
def eLr2 (a b : M Vl) : M Vl := fun e => (a e).then fun x e => (b e).then fun y e => kLr2 x y e
def kTr1 (x : Vl) : M Vl := fun e => match x with
  | .v (.int j) => if rgOk 0 j then .ok (.v (.tup (rng 0 j.toNat))) e else .bad
  | _ => .bad
def eTr1 (a : M Vl) : M Vl := fun e => (a e).then kTr1
def kTr2 (x y : Vl) : M Vl := fun e => match x, y with
  | .v (.int i), .v (.int j) => if rgOk i j then .ok (.v (.tup (rng i (j - i).toNat))) e else .bad
  | _, _ => .bad
def eTr2 (a b : M Vl) : M Vl := fun e => (a e).then fun x e => (b e).then fun y e => kTr2 x y e
def enumD (k : Nat) : List D → List D
  | [] => []
  | d :: l => .tup [.int (k : Int), d] :: enumD (k + 1) l
def iEnum (a : M Vl) : M (List D) := fun e => (a e).then fun x e => lift (x.items.map (enumD 0)) e
def zipD : List D → List D → List D
  | a :: l, b :: m => .tup [a, b] :: zipD l m
  | _, _ => []
def iZip (a b : M Vl) : M (List D) := fun e => (a e).then fun x e => (b e).then fun y e => match x.items, y.items with
  | some l, some m => .ok (zipD l m) e
  | _, _ => .bad

/-- zip of two tuples or of two lists -/
def kZip (x y : Vl) : M (List D) := fun e => match x, y with
  | .v (.tup l), .v (.tup m) => .ok (zipD l m) e
  | .v (.lst l), .v (.lst m) => .ok (zipD l m) e
  | _, _ => .bad
def iZipS (a b : M Vl) : M (List D) := fun e => (a e).then fun x e => (b e).then fun y e => kZip x y e

/-! targets -/
def gN (i : Nat) : D → En → Option En := fun d e => some (e.set i (some (.v d)))
def gs : List (D → En → Option En) → List D → En → Option En
  | [], [], e => some e
  | g :: r, d :: l, e => (g d e).bind (gs r l)
  | _, _, _ => none
def gT (r : List (D → En → Option En)) : D → En → Option En := fun d e => match d with
  | .tup l => gs r l e
  | _ => none

/-- a tuple or a list is taken apart -/
def gL (r : List (D → En → Option En)) : D → En → Option En := fun d e => match d with
  | .tup l => gs r l e
  | .lst l => gs r l e
  | _ => none
def gIx (k : Nat) (f : N) : D → En → Option En := fun d e => match e[k]?, f e with
  | some (some (.o l)), some i => (ixN l.length i).map fun j => e.set k (some (.o (l.set j d)))
  | _, _ => none
/-- x[i] = .., the index reckoned behind the value -/
def gIxM (k : Nat) (m : M Vl) : D → En → Option En := fun d e => match e[k]? with
  | some (some (.o _)) => (match m e with
    | .ok (.v (.int i)) e1 => (match e1[k]? with
      | some (some (.o l)) => (ixN l.length i).map fun j => e1.set k (some (.o (l.set j d)))
      | _ => none)
    | _ => none)
  | _ => none
def gIx2 (k : Nat) (f g : N) : D → En → Option En := fun d e => match e[k]?, f e, g e with
  | some (some (.oo l)), some i, some j => (ixN l.length i).bind fun a => (l[a]?).bind fun r => (ixN r.length j).map fun b => e.set k (some (.oo (l.set a (r.set b d))))
  | _, _, _ => none

/-! methods of a list of one's own -/
def mApp (k : Nat) (a : M Vl) : M Vl := fun e => match e[k]? with
  | some (some (.o _)) => (a e).then fun y e => (match y.d, e[k]? with
    | some d, some (some (.o l)) => if l.length < lim then .ok (.v .non) (e.set k (some (.o (l ++ [d])))) else .bad
    | _, _ => .bad)
  | _ => .bad
def mExt (k : Nat) (a : M Vl) : M Vl := fun e => match e[k]? with
  | some (some (.o _)) => (a e).then fun y e => (match y, e[k]? with
    | .o r, some (some (.o l)) => if l.length + r.length ≤ lim then .ok (.v .non) (e.set k (some (.o (l ++ r)))) else .bad
    | _, _ => .bad)
  | _ => .bad
def mPop (k : Nat) (a : M Vl) : M Vl := fun e => match e[k]? with
  | some (some (.o _)) => (a e).then fun y e => (match y, e[k]? with
    | .v (.int i), some (some (.o l)) => if smallI i then (match ixN l.length i with
      | some j => (match l[j]? with
        | some d => .ok (.v d) (e.set k (some (.o (l.eraseIdx j))))
        | none => .bad)
      | none => .bad) else .bad
    | _, _ => .bad)
  | _ => .bad
def mPop0 (k : Nat) : M Vl := fun e => match e[k]? with
  | some (some (.o l)) => (match l[l.length - 1]? with
    | some d => .ok (.v d) (e.set k (some (.o l.dropLast)))
    | none => .bad)
  | _ => .bad

/-! comprehensions -/
def hide (e : En) : List Nat → En
  | [] => e
  | i :: r => (hide e r).set i none
/-- what a place held, if it was data -/
def keepD (o : Option (Option Vl)) : Option Vl := match o with
  | some (some (.v d)) => some (.v d)
  | _ => none
def unhide (old e : En) : List Nat → En
  | [] => e
  | i :: r => (unhide old e r).set i (keepD old[i]?)
/-- one clause: what is walked, the target, the test, the item -/
def compGo (vs : List Nat) (g : D → En → Option En) (t : M Bool) (x : M Vl) : List D → List D → En → Rs (List D)
  | [], acc, e => .ok acc e
  | d :: l, acc, e => match g d e with
    | none => .bad
    | some e1 => match t e1 with
      | .ok true e2 => (match x e2 with
        | .ok y e3 => (match y.d with
          | some z => compGo vs g t x l (acc ++ [z]) (hide e3 vs)
          | none => .bad)
        | _ => .bad)
      | .ok false e2 => compGo vs g t x l acc (hide e2 vs)
      | _ => .bad
def tYes : M Bool := fun e => .ok true e
def eComp (vs : List Nat) (it : M (List D)) (g : D → En → Option En) (t : M Bool) (x : M Vl) : M Vl := fun e => (it e).then fun l e1 =>
  if l.length ≤ lim then
    (match compGo vs g t x l [] (hide e1 vs) with
     | .ok acc e2 => .ok (.o acc) (unhide e1 e2 vs)
     | _ => .bad)
  else .bad

/-- one clause, each item a list of one's own -/
def compGoO (vs : List Nat) (g : D → En → Option En) (t : M Bool) (x : M Vl) : List D → List (List D) → En → Rs (List (List D))
  | [], acc, e => .ok acc e
  | d :: l, acc, e => match g d e with
    | none => .bad
    | some e1 => match t e1 with
      | .ok true e2 => (match x e2 with
        | .ok (.o y) e3 => compGoO vs g t x l (acc ++ [y]) (hide e3 vs)
        | _ => .bad)
      | .ok false e2 => compGoO vs g t x l acc (hide e2 vs)
      | _ => .bad
def eCompO (vs : List Nat) (it : M (List D)) (g : D → En → Option En) (t : M Bool) (x : M Vl) : M Vl := fun e => (it e).then fun l e1 =>
  if l.length ≤ lim then
    (match compGoO vs g t x l [] (hide e1 vs) with
     | .ok acc e2 => .ok (.oo acc) (unhide e1 e2 vs)
     | _ => .bad)
  else .bad

/-- two clauses -/
def compGo2 (vs vs1 : List Nat) (g : D → En → Option En) (t : M Bool) (it1 : M (List D)) (g1 : D → En → Option En) (t1 : M Bool) (x : M Vl) : List D → List D → En → Rs (List D)
  | [], acc, e => .ok acc e
  | d :: l, acc, e => match g d e with
    | none => .bad
    | some e1 => match t e1 with
      | .ok true e2 => (match it1 e2 with
        | .ok l1 e3 => if acc.length + l1.length ≤ lim then
            (match compGo vs1 g1 t1 x l1 acc (hide e3 vs1) with
             | .ok acc2 e4 => compGo2 vs vs1 g t it1 g1 t1 x l acc2 (hide e4 vs)
             | _ => .bad)
          else .bad
        | _ => .bad)
      | .ok false e2 => compGo2 vs vs1 g t it1 g1 t1 x l acc (hide e2 vs)
      | _ => .bad
def eComp2 (vs vs1 : List Nat) (it : M (List D)) (g : D → En → Option En) (t : M Bool) (it1 : M (List D)) (g1 : D → En → Option En) (t1 : M Bool) (x : M Vl) : M Vl := fun e => (it e).then fun l e1 =>
  match compGo2 vs vs1 g t it1 g1 t1 x l [] (hide e1 vs) with
  | .ok acc e2 => .ok (.o acc) (unhide e1 e2 vs)
  | _ => .bad

/-! calls -/
def Vl.own : Vl → Bool
  | .v _ => false
  | .rg _ _ => false
  | _ => true
/-- an argument: its value, or a name that is lent -/
inductive Ar where
  | va (m : M Vl) | lent (i : Nat)
def args : List Ar → M (List Vl)
  | [] => fun e => .ok [] e
  | .va m :: r => fun e => (m e).then fun x e => match x.d with
    | some d => (args r e).then fun l e => .ok (.v d :: l) e
    | none => .bad
  | .lent i :: r => fun e => match e[i]? with
    | some (some _) => (args r e).then fun l e => (match e[i]? with
      | some (some x) => if x.own then .ok (x :: l) e else .bad
      | _ => .bad)
    | _ => .bad
def puts : List Ar → List Vl → En → Option En
  | [], [], e => some e
  | .va _ :: r, l, e => puts r l e
  | .lent i :: r, x :: l, e => puts r l (e.set i (some x))
  | _, _, _ => none
/-- what was lent to a call that raised is not known any more -/
def kill : List Ar → En → En
  | [], e => e
  | .va _ :: r, e => kill r e
  | .lent i :: r, e => kill r (e.set i none)
/-- where lent arguments stand, and whose they are -/
def lentP : List Ar → List (Nat × Nat)
  | [] => []
  | .va _ :: r => (lentP r).map fun p => (p.1 + 1, p.2)
  | .lent i :: r => (0, i) :: (lentP r).map fun p => (p.1 + 1, p.2)
def eCall (f : F) (as : List Ar) : M Vl := fun e => (args as e).then fun l e => match f l with
  | .ok x outs => (match puts as outs e with
    | some e => .ok x e
    | none => .bad)
  | .ex x => .ex x (kill as e)
  | .bad => .bad

/-! statements -/
def sNil : C := fun e => .nxt e
def sSeq (a b : C) : C := fun e => match a e with
  | .nxt e => b e
  | o => o
def sIf (t : M Bool) (a b : C) : C := fun e => match t e with
  | .ok c e => if c then a e else b e
  | .ex x e => .ex x e
  | .bad => .bad
def sRet (a : M Vl) : C := fun e => match a e with
  | .ok x e => .ret x e
  | .ex x e => .ex x e
  | .bad => .bad
def sDrop (a : M Vl) : C := fun e => match a e with
  | .ok _ e => .nxt e
  | .ex x e => .ex x e
  | .bad => .bad
def sSet (i : Nat) (a : M Vl) : C := fun e => match a e with
  | .ok x e => .nxt (e.set i (some x))
  | .ex x e => .ex x e
  | .bad => .bad
def sTo (g : D → En → Option En) (a : M Vl) : C := fun e => match a e with
  | .ok x e => (match x.d.bind fun d => g d e with
    | some e => .nxt e
    | none => .bad)
  | .ex x e => .ex x e
  | .bad => .bad
/-- a, b = x, y; a, b, c = x, y, z -/
def sPar (i j : Nat) (r : M (List D)) : C := fun e => match r e with
  | .ok [x, y] e => .nxt ((e.set i (some (.v x))).set j (some (.v y)))
  | .ok _ _ => .bad
  | .ex x e => .ex x e
  | .bad => .bad
def sPar3 (i j k : Nat) (r : M (List D)) : C := fun e => match r e with
  | .ok [x, y, z] e => .nxt (((e.set i (some (.v x))).set j (some (.v y))).set k (some (.v z)))
  | .ok _ _ => .bad
  | .ex x e => .ex x e
  | .bad => .bad
/-- name op= value -/
def sAug (i : Nat) (f : Int → Int → Int) (a : M Vl) : C := fun e => match e[i]? with
  | some (some (.v (.int x))) => (match a e with
    | .ok (.v (.int y)) e => .nxt (e.set i (some (.v (.int (f x y)))))
    | .ok _ _ => .bad
    | .ex x e => .ex x e
    | .bad => .bad)
  | _ => .bad
/-- rows[i] += [..], rows a list of one's own lists -/
def sAugIx (k : Nat) (f : N) (m : M Vl) : C := fun e => match e[k]?, f e with
  | some (some (.oo l)), some i => if 0 ≤ i then (match l[i.toNat]? with
    | some r => (match m (e.set k none) with
      | .ok (.o z) e2 => if r.length + z.length ≤ lim then .nxt (e2.set k (some (.oo (l.set i.toNat (r ++ z))))) else .bad
      | .ok _ _ => .bad
      | .ex x e2 => .ex x e2
      | .bad => .bad)
    | none => .bad) else .bad
  | _, _ => .bad
/-- rows.append([..]), rows a list of one's own lists -/
def mAppO (k : Nat) (a : M Vl) : M Vl := fun e => match e[k]? with
  | some (some (.oo _)) => (a e).then fun y e => (match y, e[k]? with
    | .o z, some (some (.oo l)) => if l.length < lim then .ok (.v .non) (e.set k (some (.oo (l ++ [z])))) else .bad
    | _, _ => .bad)
  | _ => .bad
/-- raise X(value) -/
def sRaise (c : String) (a : M Vl) : C := fun e => match a e with
  | .ok x e => (match x.d with
    | some d => .ex ⟨c, [("code", d)]⟩ e
    | none => .bad)
  | .ex x e => .ex x e
  | .bad => .bad
/-- try: b; except (one of cs) as i: s; ns: others that may come -/
def sTry (b : C) (cs ns : List String) (i : Nat) (s : Ex → C) : C := fun e => match b e with
  | .ex x e => if cs.contains x.cls then if i < e.length then (match s x (e.set i none) with
    | .nxt e => .nxt (e.set i none)
    | .brk e => .brk (e.set i none)
    | .cnt e => .cnt (e.set i none)
    | .ret y e => .ret y (e.set i none)
    | _ => .bad) else .bad else if ns.contains x.cls then .ex x e else .bad
  | o => o
/-- e.code in the suite -/
def eFld (x : Ex) (n : String) : M Vl := fun e => match x.fs.lookup n with
  | some d => .ok (.v d) e
  | none => .bad
def forGo (g : D → En → Option En) (b : C) : List D → En → Out
  | [], e => .nxt e
  | d :: l, e => match g d e with
    | none => .bad
    | some e1 => match b e1 with
      | .nxt e2 => forGo g b l e2
      | .cnt e2 => forGo g b l e2
      | .brk e2 => .nxt e2
      | o => o
def sFor (it : M (List D)) (g : D → En → Option En) (b : C) : C := fun e => match it e with
  | .ok l e => forGo g b l e
  | .ex x e => .ex x e
  | .bad => .bad
def whileGo (t : M Bool) (b : C) : Nat → En → Option Out
  | 0, _ => none
  | n + 1, e => match t e with
    | .ok false e => some (.nxt e)
    | .ok true e => (match b e with
      | .nxt e => whileGo t b n e
      | .cnt e => whileGo t b n e
      | .brk e => some (.nxt e)
      | o => some o)
    | .ex x e => some (.ex x e)
    | .bad => some .bad
theorem whileGo_more (t : M Bool) (b : C) : ∀ (n k : Nat) (e : En) (o : Out), whileGo t b n e = some o → whileGo t b (n + k) e = some o
  | 0, _, _, _, h => by simp [whileGo] at h
  | n + 1, k, e, o, h => by
    rw [show n + 1 + k = (n + k) + 1 by omega]
    unfold whileGo at h ⊢
    split <;> rename_i q <;> simp only [q] at h
    · exact h
    · split <;> rename_i q2 <;> simp only [q2] at h
      · exact whileGo_more t b n k _ _ h
      · exact whileGo_more t b n k _ _ h
      · exact h
      · simp_all
    · exact h
    · exact h
open Classical in
noncomputable def sWhile (t : M Bool) (b : C) : C := fun e =>
  if h : ∃ o n, whileGo t b n e = some o then h.choose else .bad
theorem sWhile_eq {t : M Bool} {b : C} {e : En} {o : Out} {n : Nat} (h : whileGo t b n e = some o) : sWhile t b e = o := by
  have hx : ∃ o n, whileGo t b n e = some o := ⟨o, n, h⟩
  unfold sWhile
  rw [dif_pos hx]
  obtain ⟨k, hk⟩ := hx.choose_spec
  have h1 := whileGo_more t b n k e o h
  have h2 := whileGo_more t b k n e _ hk
  rw [Nat.add_comm k n, h1] at h2
  exact (Option.some.inj h2).symm
theorem sWhile_ex {t : M Bool} {b : C} {e : En} (h : sWhile t b e ≠ .bad) : ∃ n, whileGo t b n e = some (sWhile t b e) := by
  by_cases hx : ∃ o n, whileGo t b n e = some o
  · obtain ⟨o, n, hn⟩ := hx
    exact ⟨n, by rw [sWhile_eq hn]; exact hn⟩
  · exact absurd (by unfold sWhile; rw [dif_neg hx]) h

/-- a def's body, its names: how many, which of its parameters are lent -/
def outs : List Nat → En → Option (List Vl)
  | [], _ => some []
  | i :: r, e => match e[i]? with
    | some (some x) => (outs r e).map (x :: ·)
    | _ => none
def runDef (n : Nat) (lent : List Nat) (b : C) : F := fun l => match b (l.map some ++ List.replicate (n - l.length) none) with
  | .nxt e => (match outs lent e with
    | some os => .ok (.v .non) os
    | none => .bad)
  | .ret x e => (match outs lent e with
    | some os => .ok x os
    | none => .bad)
  | .ex x _ => .ex x
  | _ => .bad
end Fx
end

section
set_option Elab.async false
set_option linter.all false
set_option maxRecDepth 100000
set_option maxHeartbeats 4000000
/-! Wa: how plain data lies in an abstract heap; what stays; the readings of plain meanings. -/
namespace Fx
open PySem PySem.Spec PyProof.Rows L2

/-- the lists that are only read -/
abbrev SP' := Addr → Prop

section
variable (K : PySem.W.Frag) (S : SP') (H : Hp)
/-- a list at a that is only read -/
def Ls (K : PySem.W.Frag) (S : SP') (H : Hp) (a : Addr) (vs : List V) : Prop := (S a ∧ H a = some (.lst vs)) ∨ (∃ o, H a = some (.frz o (.lst vs))) ∨
  ∃ (o : Obj) (its : Array Value) (n : Nat), K.lookup a = some o ∧ o.cls = .type "list" ∧ o.dict = none ∧ o.data = .seq its n ∧ its.size ≤ sizeLine ∧ Vals vs its.toList
/-- a tuple at a, known to the object: it has no dict -/
def ExT (H : Hp) (a : Addr) (vs : List V) : Prop := ∃ ob : Obj, H a = some (.frz ob (.tup vs)) ∧ ob.dict = none
mutual
def rep : D → V → Prop
  | .non, v => v = .non
  | .bl b, v => v = .bl b
  | .int i, v => v = .int i
  | .str s, v => v = .str (Str.ofString s)
  | .tup ds, v => ∃ a vs, v = .ref a ∧ ExT H a vs ∧ reps ds vs
  | .lst ds, v => ∃ a vs, v = .ref a ∧ Ls K S H a vs ∧ reps ds vs
def reps : List D → List V → Prop
  | [], vs => vs = []
  | d :: ds, vs => ∃ v r, vs = v :: r ∧ rep d v ∧ reps ds r
end
/-- lists of one's own at these places -/
def rows : List (List D) → List Addr → List V → Prop
  | [], as, vs => as = [] ∧ vs = []
  | l :: ls, as, vs => ∃ b r ws rs, as = b :: r ∧ vs = .ref b :: rs ∧ H b = some (.lst ws) ∧ reps K S H l ws ∧ rows ls r rs
/-- what may be a key: whole numbers and words -/
def kyD : D → Option Key
  | .int i => some (.inl i)
  | .str s => some (.inr (Str.ofString s))
  | _ => none
/-- the pairs of a dict of one's own -/
def kvr : List (D × D) → List (Key × V) → Prop
  | [], ks => ks = []
  | p :: l, ks => ∃ k v r, ks = (k, v) :: r ∧ kyD p.1 = some k ∧ rep K S H p.2 v ∧ kvr l r
def repV : Vl → List Addr → V → Prop
  | .v d, fp, v => fp = [] ∧ rep K S H d v
  | .o l, fp, v => ∃ a vs, v = .ref a ∧ fp = [a] ∧ H a = some (.lst vs) ∧ reps K S H l vs
  | .oo l, fp, v => ∃ a vs as, v = .ref a ∧ fp = a :: as ∧ H a = some (.lst vs) ∧ rows K S H l as vs
  | .dc l, fp, v => ∃ a kvs, v = .ref a ∧ fp = [a] ∧ H a = some (.dK kvs) ∧ kvr K S H l kvs
  | .rg lo hi, fp, v => fp = [] ∧ ∃ a, v = .ref a ∧ H a = some (.rng lo hi)
/-- what the names hold -/
def envR : En → List Addr → L2.St → Prop
  | [], fp, σ => fp = [] ∧ σ = []
  | none :: e, fp, σ => ∃ s r, σ = s :: r ∧ envR e fp r
  | some x :: e, fp, σ => ∃ v r f1 f2, σ = some v :: r ∧ fp = f1 ++ f2 ∧ repV K S H x f1 v ∧ envR e f2 r
end

/-- may be one's own -/
def Ow : HO → Prop
  | .lst _ => True
  | .dK _ => True
  | .dT _ => True
  | _ => False
/-- a set of places of one's own -/
structure Sep (S : SP') (H : Hp) (fp : List Addr) : Prop where
  nd : fp.Nodup
  ns : ∀ a ∈ fp, ¬ S a
  ow : ∀ a ∈ fp, ∃ o, H a = some o ∧ Ow o
structure Wd (K : PySem.W.Frag) (S : SP') (H : Hp) (e : En) (fp : List Addr) (σ : L2.St) : Prop where
  env : envR K S H e fp σ
  sep : Sep S H fp
  dom : ∀ a, S a → ∃ xs, H a = some (.lst xs)

/-- later: what is not one's own stands -/
structure Ext (S : SP') (H : Hp) (fp : List Addr) (S' : SP') (H' : Hp) (fp' : List Addr) : Prop where
  keep : ∀ a o, H a = some o → a ∉ fp → H' a = some o
  fresh : ∀ a ∈ fp', a ∈ fp ∨ H a = none
  mono : ∀ a, S a → S' a
  sfr : ∀ a, S' a → S a ∨ a ∈ fp ∨ H a = none
theorem Ext.refl (S : SP') (H : Hp) (fp : List Addr) : Ext S H fp S H fp := ⟨fun _ _ h _ => h, fun _ h => .inl h, fun _ h => h, fun _ h => .inl h⟩
section
variable {S S1 S2 : SP'} {H H1 H2 : Hp} {fp fp1 fp2 g : List Addr}
theorem Ext.back (x : Ext S H fp S1 H1 fp1) {a : Addr} (h : H1 a = none) : a ∈ fp ∨ H a = none := by
  by_cases hm : a ∈ fp
  · exact .inl hm
  · cases q : H a with
    | none => exact .inr rfl
    | some o => rw [x.keep a o q hm] at h; cases h
theorem Ext.trans (x : Ext S H fp S1 H1 fp1) (y : Ext S1 H1 fp1 S2 H2 fp2) : Ext S H fp S2 H2 fp2 where
  keep := fun a o h hm => y.keep a o (x.keep a o h hm) fun z => by
    rcases x.fresh a z with q | q
    · exact hm q
    · rw [q] at h; cases h
  fresh := fun a h => by
    rcases y.fresh a h with q | q
    · exact x.fresh a q
    · exact x.back q
  mono := fun a h => y.mono a (x.mono a h)
  sfr := fun a h => by
    rcases y.sfr a h with q | q | q
    · exact x.sfr a q
    · exact .inr (x.fresh a q)
    · exact .inr (x.back q)
theorem Ext.sub (x : Ext S H fp S1 H1 fp1) (h : ∀ a ∈ g, a ∈ fp1) : Ext S H fp S1 H1 g := ⟨x.keep, fun a q => x.fresh a (h a q), x.mono, x.sfr⟩
/-- from a smaller part that one owns -/
theorem Ext.more (x : Ext S H g S1 H1 fp1) (h : ∀ a ∈ g, a ∈ fp) : Ext S H fp S1 H1 fp1 :=
  ⟨fun a o q z => x.keep a o q fun w => z (h a w), fun a q => (x.fresh a q).imp (h a) id, x.mono, fun a q => (x.sfr a q).imp id fun w => w.imp (h a) id⟩
end

/-! what stands through later steps -/
def Stl (S : SP') (a : Addr) : HO → Prop
  | .tup _ => True
  | .frz _ _ => True
  | .rng _ _ => True
  | .lst _ => S a
  | _ => False
structure Stb (S : SP') (H : Hp) (S' : SP') (H' : Hp) : Prop where
  s : ∀ a, S a → S' a
  h : ∀ a o, H a = some o → Stl S a o → H' a = some o
theorem Stb.refl (S : SP') (H : Hp) : Stb S H S H := ⟨fun _ h => h, fun _ _ h _ => h⟩
theorem Stb.trans {S S1 S2 : SP'} {H H1 H2 : Hp} (x : Stb S H S1 H1) (y : Stb S1 H1 S2 H2) : Stb S H S2 H2 :=
  ⟨fun a h => y.s a (x.s a h), fun a o h st => y.h a o (x.h a o h st) (by cases o <;> first | exact st | exact x.s a st | trivial)⟩
theorem Ext.stb {S S1 : SP'} {H H1 : Hp} {fp fp1 : List Addr} (x : Ext S H fp S1 H1 fp1) (sp : Sep S H fp) : Stb S H S1 H1 :=
  ⟨x.mono, fun a o h st => x.keep a o h fun z => by
    obtain ⟨o', h', w⟩ := sp.ow a z
    rw [h] at h'; cases h'
    cases o with
    | lst _ => exact sp.ns a z st
    | _ => first | exact w.elim | exact st.elim⟩
section
variable {K : PySem.W.Frag} {S S1 : SP'} {H H1 : Hp}
theorem SqT.stb {a : Addr} {vs : List V} (x : Stb S H S1 H1) (h : SqT K H a vs) : SqT K H1 a vs := by
  rcases h with (h | ⟨o, h⟩) | h
  · exact .inl (.inl (x.h _ _ h trivial))
  · exact .inl (.inr ⟨o, x.h _ _ h trivial⟩)
  · exact .inr h
theorem ExT.stb {a : Addr} {vs : List V} (x : Stb S H S1 H1) (h : ExT H a vs) : ExT H1 a vs := by
  obtain ⟨ob, h, d⟩ := h
  exact ⟨ob, x.h _ _ h trivial, d⟩
theorem ExT.sq {a : Addr} {vs : List V} (h : ExT H a vs) : SqT K H a vs := by
  obtain ⟨ob, h, d⟩ := h
  exact .inl (.inr ⟨ob, h⟩)
theorem Ls.stb {a : Addr} {vs : List V} (x : Stb S H S1 H1) (h : Ls K S H a vs) : Ls K S1 H1 a vs := by
  rcases h with ⟨h1, h2⟩ | ⟨o, h⟩ | h
  · exact .inl ⟨x.s _ h1, x.h _ _ h2 h1⟩
  · exact .inr (.inl ⟨o, x.h _ _ h trivial⟩)
  · exact .inr (.inr h)
theorem Ls.sq {a : Addr} {vs : List V} (h : Ls K S H a vs) : SqL K H a vs := by
  rcases h with ⟨_, h2⟩ | ⟨o, h⟩ | h
  · exact .inl (.inl h2)
  · exact .inl (.inr ⟨o, h⟩)
  · exact .inr h
theorem Ls.of {a : Addr} {vs : List V} (h : SqL K H a vs) (hs : ∀ xs, H a = some (.lst xs) → S a) : Ls K S H a vs := by
  rcases h with (h | ⟨o, h⟩) | h
  · exact .inl ⟨hs _ h, h⟩
  · exact .inr (.inl ⟨o, h⟩)
  · exact .inr (.inr h)
mutual
theorem rep.stb (x : Stb S H S1 H1) : ∀ (d : D) (v : V), rep K S H d v → rep K S1 H1 d v
  | .non, _, h => by unfold rep at h ⊢; exact h
  | .bl _, _, h => by unfold rep at h ⊢; exact h
  | .int _, _, h => by unfold rep at h ⊢; exact h
  | .str _, _, h => by unfold rep at h ⊢; exact h
  | .tup ds, _, h => by
    unfold rep at h ⊢
    obtain ⟨a, vs, h1, h2, h3⟩ := h
    exact ⟨a, vs, h1, ExT.stb x h2, reps.stb x ds vs h3⟩
  | .lst ds, _, h => by
    unfold rep at h ⊢
    obtain ⟨a, vs, h1, h2, h3⟩ := h
    exact ⟨a, vs, h1, h2.stb x, reps.stb x ds vs h3⟩
theorem reps.stb (x : Stb S H S1 H1) : ∀ (ds : List D) (vs : List V), reps K S H ds vs → reps K S1 H1 ds vs
  | [], _, h => by unfold reps at h ⊢; exact h
  | d :: ds, _, h => by
    unfold reps at h ⊢
    obtain ⟨v, r, h1, h2, h3⟩ := h
    exact ⟨v, r, h1, rep.stb x d v h2, reps.stb x ds r h3⟩
end
theorem rows.stb (x : Stb S H S1 H1) : ∀ (ls : List (List D)) (as : List Addr) (vs : List V), (∀ a ∈ as, H1 a = H a) → rows K S H ls as vs → rows K S1 H1 ls as vs
  | [], _, _, _, h => by unfold rows at h ⊢; exact h
  | l :: ls, as, vs, k, h => by
    unfold rows at h ⊢
    obtain ⟨b, r, ws, rs, h1, h2, h3, h4, h5⟩ := h
    subst h1
    exact ⟨b, r, ws, rs, rfl, h2, by rw [k b List.mem_cons_self]; exact h3, reps.stb x l ws h4, rows.stb x ls r rs (fun a q => k a (List.mem_cons_of_mem _ q)) h5⟩
theorem kvr.stb (x : Stb S H S1 H1) : ∀ (l : List (D × D)) (ks : List (Key × V)), kvr K S H l ks → kvr K S1 H1 l ks
  | [], _, h => by unfold kvr at h ⊢; exact h
  | p :: l, _, h => by
    unfold kvr at h ⊢
    obtain ⟨k, v, r, h1, h2, h3, h4⟩ := h
    exact ⟨k, v, r, h1, h2, rep.stb x p.2 v h3, kvr.stb x l r h4⟩
theorem repV.stb (x : Stb S H S1 H1) {y : Vl} {fp : List Addr} {v : V} (k : ∀ a ∈ fp, H1 a = H a) (h : repV K S H y fp v) : repV K S1 H1 y fp v := by
  cases y with
  | v d => exact ⟨h.1, rep.stb x d v h.2⟩
  | o l =>
    obtain ⟨a, vs, h1, h2, h3, h4⟩ := h
    subst h2
    exact ⟨a, vs, h1, rfl, by rw [k a List.mem_cons_self]; exact h3, reps.stb x l vs h4⟩
  | oo l =>
    obtain ⟨a, vs, as, h1, h2, h3, h4⟩ := h
    subst h2
    exact ⟨a, vs, as, h1, rfl, by rw [k a List.mem_cons_self]; exact h3, rows.stb x l as vs (fun b q => k b (List.mem_cons_of_mem _ q)) h4⟩
  | dc l =>
    obtain ⟨a, ks, h1, h2, h3, h4⟩ := h
    subst h2
    exact ⟨a, ks, h1, rfl, by rw [k a List.mem_cons_self]; exact h3, kvr.stb x l ks h4⟩
  | rg lo hi =>
    obtain ⟨h1, a, h2, h3⟩ := h
    exact ⟨h1, a, h2, x.h a _ h3 trivial⟩
theorem envR.stb (x : Stb S H S1 H1) : ∀ (e : En) (fp : List Addr) (σ : L2.St), (∀ a ∈ fp, H1 a = H a) → envR K S H e fp σ → envR K S1 H1 e fp σ
  | [], _, _, _, h => by unfold envR at h ⊢; exact h
  | none :: e, fp, _, k, h => by
    unfold envR at h ⊢
    obtain ⟨s, r, h1, h2⟩ := h
    exact ⟨s, r, h1, envR.stb x e fp r k h2⟩
  | some y :: e, fp, _, k, h => by
    unfold envR at h ⊢
    obtain ⟨v, r, f1, f2, h1, h2, h3, h4⟩ := h
    subst h2
    exact ⟨v, r, f1, f2, h1, rfl, h3.stb x fun a q => k a (List.mem_append_left _ q), envR.stb x e f2 r (fun a q => k a (List.mem_append_right _ q)) h4⟩
theorem reps.length : ∀ {ds : List D} {vs : List V}, reps K S H ds vs → ds.length = vs.length
  | [], _, h => by unfold reps at h; subst h; rfl
  | d :: ds, _, h => by
    unfold reps at h
    obtain ⟨v, r, h1, h2, h3⟩ := h
    subst h1
    rw [List.length_cons, List.length_cons, reps.length h3]
theorem reps.get : ∀ {ds : List D} {vs : List V} {i : Nat} {d : D}, reps K S H ds vs → ds[i]? = some d → ∃ v, vs[i]? = some v ∧ rep K S H d v
  | [], _, _, _, _, e => by simp at e
  | d :: ds, _, 0, _, h, e => by
    unfold reps at h
    obtain ⟨v, r, h1, h2, h3⟩ := h
    simp at e
    subst h1 e
    exact ⟨v, rfl, h2⟩
  | d :: ds, _, i + 1, _, h, e => by
    unfold reps at h
    obtain ⟨v, r, h1, h2, h3⟩ := h
    subst h1
    exact reps.get (i := i) h3 (by simpa using e)
theorem reps.app : ∀ {ds es : List D} {vs ws : List V}, reps K S H ds vs → reps K S H es ws → reps K S H (ds ++ es) (vs ++ ws)
  | [], _, _, _, h, h' => by unfold reps at h; subst h; exact h'
  | d :: ds, _, _, _, h, h' => by
    unfold reps at h
    obtain ⟨v, r, h1, h2, h3⟩ := h
    subst h1
    show reps K S H (d :: (ds ++ _)) _
    unfold reps
    exact ⟨v, _, rfl, h2, reps.app h3 h'⟩
theorem reps.take : ∀ {ds : List D} {vs : List V} (n : Nat), reps K S H ds vs → reps K S H (ds.take n) (vs.take n)
  | _, _, 0, _ => by simp [reps]
  | [], _, n + 1, h => by unfold reps at h; subst h; simp [reps]
  | d :: ds, _, n + 1, h => by
    unfold reps at h
    obtain ⟨v, r, h1, h2, h3⟩ := h
    subst h1
    simp only [List.take_succ_cons]
    unfold reps
    exact ⟨v, _, rfl, h2, reps.take n h3⟩
theorem reps.drop : ∀ {ds : List D} {vs : List V} (n : Nat), reps K S H ds vs → reps K S H (ds.drop n) (vs.drop n)
  | _, _, 0, h => h
  | [], _, n + 1, h => by unfold reps at h; subst h; simp [reps]
  | d :: ds, _, n + 1, h => by
    unfold reps at h
    obtain ⟨v, r, h1, h2, h3⟩ := h
    subst h1
    exact reps.drop n h3
theorem reps.set : ∀ {ds : List D} {vs : List V} (i : Nat) {d : D} {v : V}, reps K S H ds vs → rep K S H d v → reps K S H (ds.set i d) (vs.set i v)
  | [], _, _, _, _, h, _ => by unfold reps at h; subst h; simp [reps]
  | d :: ds, _, 0, _, _, h, h' => by
    unfold reps at h
    obtain ⟨v, r, h1, h2, h3⟩ := h
    subst h1
    simp only [List.set_cons_zero]
    unfold reps
    exact ⟨_, _, rfl, h', h3⟩
  | d :: ds, _, i + 1, _, _, h, h' => by
    unfold reps at h
    obtain ⟨v, r, h1, h2, h3⟩ := h
    subst h1
    simp only [List.set_cons_succ]
    unfold reps
    exact ⟨_, _, rfl, h2, reps.set i h3 h'⟩
theorem reps.rev : ∀ {ds : List D} {vs : List V}, reps K S H ds vs → reps K S H ds.reverse vs.reverse
  | [], _, h => by unfold reps at h; subst h; simp [reps]
  | d :: ds, _, h => by
    unfold reps at h
    obtain ⟨v, r, h1, h2, h3⟩ := h
    subst h1
    rw [List.reverse_cons, List.reverse_cons]
    exact reps.app (reps.rev h3) (by unfold reps; exact ⟨v, [], rfl, h2, by simp [reps]⟩)
theorem reps.nil : reps K S H [] [] := by simp [reps]
theorem reps.cons {d : D} {ds : List D} {v : V} {vs : List V} (h : rep K S H d v) (h' : reps K S H ds vs) : reps K S H (d :: ds) (v :: vs) := by unfold reps; exact ⟨v, vs, rfl, h, h'⟩
theorem reps.erase : ∀ {ds : List D} {vs : List V} (i : Nat), reps K S H ds vs → reps K S H (ds.eraseIdx i) (vs.eraseIdx i)
  | [], _, _, h => by unfold reps at h; subst h; simp [reps]
  | d :: ds, _, 0, h => by
    unfold reps at h
    obtain ⟨v, r, h1, h2, h3⟩ := h
    subst h1
    exact h3
  | d :: ds, _, i + 1, h => by
    unfold reps at h
    obtain ⟨v, r, h1, h2, h3⟩ := h
    subst h1
    exact reps.cons h2 (reps.erase i h3)
theorem reps.rep : ∀ {ds : List D} {vs : List V}, reps K S H ds vs → ∀ k : Nat, reps K S H (List.replicate k ds).flatten (List.replicate k vs).flatten
  | _, _, h, 0 => by simp [reps]
  | _, _, h, k + 1 => by
    rw [List.replicate_succ, List.replicate_succ, List.flatten_cons, List.flatten_cons]
    exact reps.app h (reps.rep h k)
theorem envR.len : ∀ {e : En} {fp : List Addr} {σ : L2.St}, envR K S H e fp σ → e.length = σ.length
  | [], _, _, h => by unfold envR at h; rw [h.2]; rfl
  | none :: e, _, _, h => by
    unfold envR at h
    obtain ⟨s, r, h1, h2⟩ := h
    subst h1
    simp [envR.len h2]
  | some y :: e, _, _, h => by
    unfold envR at h
    obtain ⟨v, r, f1, f2, h1, h2, h3, h4⟩ := h
    subst h1
    simp [envR.len h4]
end
end Fx
end

section
set_option Elab.async false
set_option linter.all false
set_option maxRecDepth 100000
set_option maxHeartbeats 4000000
/-! Wb: expressions. -/
namespace Fx
open PySem PySem.Spec PyProof.Rows L2

/-- an error's fields -/
def fldR (K : PySem.W.Frag) (S : SP') (H : Hp) : List (String × D) → List (Str × V) → Prop
  | [], fs => fs = []
  | (n, d) :: r, fs => ∃ v q, fs = (Str.ofString n, v) :: q ∧ rep K S H d v ∧ fldR K S H r q
def exR (K : PySem.W.Frag) (mg : Str → Option Value) (S : SP') (H : Hp) (x : Ex) (c : Value) (dd : Option Addr) : Prop :=
  ∃ C d fs, mg (Str.ofString x.cls) = some (.ref C) ∧ c = .ref C ∧ dd = some d ∧ H d = some (.xd fs) ∧ fldR K S H x.fs fs

/-- what is wanted behind a plain meaning -/
def Rs.post {α : Type} (r : Rs α) (P : α → En → Prop) (E : Ex → En → Prop) : Prop :=
  match r with
  | .ok a e => P a e
  | .ex x e => E x e
  | .bad => False
/-- the wish about an error -/
def exW (K : PySem.W.Frag) (mg : Str → Option Value) (W : WX) (S : SP') (H : Hp) (fp : List Addr) (σ : L2.St) (x : Ex) (e : En) : Prop :=
  ∀ S' H' fp' c dd, Ext S H fp S' H' fp' → Wd K S' H' e fp' σ → exR K mg S' H' x c dd → W c dd σ H'
/-- the reading of a plain meaning -/
def TR {α β : Type} (K : PySem.W.Frag) (mg : Str → Option Value) (W : WX) (R : SP' → Hp → α → List Addr → β → Prop) (m : M α) : L2.St → Hp → (β → Hp → Prop) → Prop := fun σ H Q =>
  ∃ S e fp, Wd K S H e fp σ ∧ (m e).post
    (fun x e' => ∀ S' H' fp' fx v, Ext S H fp S' H' (fx ++ fp') → Wd K S' H' e' fp' σ → Sep S' H' (fx ++ fp') → R S' H' x fx v → Q v H')
    (fun x e' => exW K mg W S H fp σ x e')

def RB (S : SP') (H : Hp) (x : Bool) (fx : List Addr) (v : Bool) : Prop := fx = [] ∧ v = x
def RL (K : PySem.W.Frag) (S : SP') (H : Hp) (ds : List D) (fx : List Addr) (vs : List V) : Prop := fx = [] ∧ reps K S H ds vs
/-- a value that is only looked at -/
def RP (K : PySem.W.Frag) (S : SP') (H : Hp) : Vl → List Addr → V → Prop
  | .v (.lst l), fx, v => fx = [] ∧ ∃ a vs, v = .ref a ∧ SqL K H a vs ∧ reps K S H l vs
  | x, fx, v => repV K S H x fx v
def RO (S : SP') (H : Hp) (x : Option Int) (fx : List Addr) (v : Option Int) : Prop := fx = [] ∧ v = x
structure DE (X : Cx) (W : WX) (e : Expr) (m : M Vl) : Prop where
  p : PE X e (TR X.K X.mg W (repV X.K) m)
structure DP (X : Cx) (W : WX) (e : Expr) (m : M Vl) : Prop where
  p : PE X e (TR X.K X.mg W (RP X.K) m)
structure DT (X : Cx) (W : WX) (e : Expr) (m : M Bool) : Prop where
  p : PT X e (TR X.K X.mg W RB m)
structure DA (X : Cx) (W : WX) (es : List Expr) (m : M (List D)) : Prop where
  p : PA X es (TR X.K X.mg W (RL X.K) m)
structure DO (X : Cx) (W : WX) (e : Option Expr) (m : M (Option Int)) : Prop where
  p : PO X e (TR X.K X.mg W RO m)

theorem PEm {X : Cx} {e : Expr} {t t' : TE} (h : PE X e t) (k : ∀ σ H Q, t' σ H Q → t σ H Q) : PE X e t' := ⟨fun pins s σ H Q I q => h.run pins s σ H Q I (k σ H Q q)⟩
theorem PTm {X : Cx} {e : Expr} {t t' : TT} (h : PT X e t) (k : ∀ σ H Q, t' σ H Q → t σ H Q) : PT X e t' := ⟨fun pins s σ H Q I q => h.run pins s σ H Q I (k σ H Q q)⟩
theorem PAm {X : Cx} {e : List Expr} {t t' : TA} (h : PA X e t) (k : ∀ σ H Q, t' σ H Q → t σ H Q) : PA X e t' := ⟨fun pos pins s σ H Q I q => h.run pos pins s σ H Q I (k σ H Q q)⟩

section
variable {K : PySem.W.Frag} {mg : Str → Option Value} {W : WX} {S S1 S2 : SP'} {H H1 H2 : Hp} {e e1 : En} {fp fp1 fp2 fx fy : List Addr} {σ : L2.St}
theorem Sep.app1 (h : Sep S H (fx ++ fp)) : Sep S H fx := ⟨(List.nodup_append.mp h.nd).1, fun a q => h.ns a (List.mem_append_left _ q), fun a q => h.ow a (List.mem_append_left _ q)⟩
theorem Sep.app2 (h : Sep S H (fx ++ fp)) : Sep S H fp := ⟨(List.nodup_append.mp h.nd).2.1, fun a q => h.ns a (List.mem_append_right _ q), fun a q => h.ow a (List.mem_append_right _ q)⟩
theorem Sep.apart (h : Sep S H (fx ++ fp)) {a : Addr} (p : a ∈ fx) (q : a ∈ fp) : False := (List.nodup_append.mp h.nd).2.2 a p a q rfl
theorem Sep.nil : Sep S H [] := ⟨List.nodup_nil, (fun _ h => nomatch h), (fun _ h => nomatch h)⟩
/-- what waits while another part runs -/
theorem Sep.wait (h : Sep S1 H1 (fx ++ fp1)) (x : Ext S1 H1 fp1 S2 H2 fp2) (h2 : Sep S2 H2 fp2) : Sep S2 H2 (fx ++ fp2) ∧ ∀ a ∈ fx, H2 a = H1 a := by
  have st : ∀ a ∈ fx, H2 a = H1 a := fun a q => by
    obtain ⟨o, ho, _⟩ := h.ow a (List.mem_append_left _ q)
    rw [ho]
    exact x.keep a o ho fun z => h.apart q z
  refine ⟨⟨List.nodup_append.mpr ⟨h.app1.nd, h2.nd, fun a p b q e => ?_⟩, fun a q z => ?_, fun a q => ?_⟩, st⟩
  · subst e
    rcases x.fresh a q with r | r
    · exact h.apart p r
    · obtain ⟨o, ho, _⟩ := h.ow a (List.mem_append_left _ p)
      rw [r] at ho; cases ho
  · rcases List.mem_append.mp q with q | q
    · rcases x.sfr a z with r | r | r
      · exact h.ns a (List.mem_append_left _ q) r
      · exact h.apart q r
      · obtain ⟨o, ho, _⟩ := h.ow a (List.mem_append_left _ q)
        rw [r] at ho; cases ho
    · exact h2.ns a q z
  · rcases List.mem_append.mp q with q | q
    · obtain ⟨o, ho, w⟩ := h.ow a (List.mem_append_left _ q)
      exact ⟨o, (st a q).trans ho, w⟩
    · exact h2.ow a q
/-- a further step behind a first one, with what waits -/
theorem Ext.wait (x : Ext S H fp S1 H1 (fx ++ fp1)) (y : Ext S1 H1 fp1 S2 H2 fp2) : Ext S H fp S2 H2 (fx ++ fp2) := by
  have z := x.trans (y.more fun a q => List.mem_append_right fx q)
  refine ⟨z.keep, fun a q => ?_, z.mono, z.sfr⟩
  rcases List.mem_append.mp q with q | q
  · exact x.fresh a (List.mem_append_left _ q)
  · exact z.fresh a q
theorem Ext.drop (x : Ext S H fp S1 H1 (fx ++ fp1)) : Ext S H fp S1 H1 fp1 := x.sub fun a q => List.mem_append_right _ q

theorem TR.mono {α β : Type} {R R' : SP' → Hp → α → List Addr → β → Prop} {m : M α} (k : ∀ S H x fx v, R S H x fx v → R' S H x fx v) {Q : β → Hp → Prop} (h : TR K mg W R' m σ H Q) : TR K mg W R m σ H Q := by
  obtain ⟨S, e, fp, wd, p⟩ := h
  refine ⟨S, e, fp, wd, ?_⟩
  cases q : m e with
  | ok x e' => rw [q] at p; exact fun S' H' fp' fx v a b c d => p S' H' fp' fx v a b c (k _ _ _ _ _ d)
  | ex x e' => rw [q] at p; exact p
  | bad => rw [q] at p; exact p
/-- one part, then what is made of it -/
theorem TR.bind {α β γ δ : Type} {R : SP' → Hp → α → List Addr → β → Prop} {R' : SP' → Hp → γ → List Addr → δ → Prop} {m : M α} {k : α → En → Rs γ} {Q : δ → Hp → Prop} {Q1 : β → Hp → Prop}
    (h : TR K mg W R' (fun e => (m e).then k) σ H Q)
    (f : ∀ S e fp S1 H1 e1 fp1 fx x v, Wd K S H e fp σ → Ext S H fp S1 H1 (fx ++ fp1) → Wd K S1 H1 e1 fp1 σ → Sep S1 H1 (fx ++ fp1) → R S1 H1 x fx v →
      (k x e1).post (fun y e' => ∀ S' H' fp' fy u, Ext S H fp S' H' (fy ++ fp') → Wd K S' H' e' fp' σ → Sep S' H' (fy ++ fp') → R' S' H' y fy u → Q u H') (fun x e' => exW K mg W S H fp σ x e') → Q1 v H1) :
    TR K mg W R m σ H Q1 := by
  obtain ⟨S, e, fp, wd, p⟩ := h
  refine ⟨S, e, fp, wd, ?_⟩
  cases q : m e with
  | ok x e' =>
    simp only [q, Rs.then] at p
    exact fun S' H' fp' fx v a b c d => f S e fp S' H' e' fp' fx x v wd a b c d p
  | ex x e' => simp only [q, Rs.then] at p; exact p
  | bad => simp only [q, Rs.then] at p; exact p
theorem exW.more {S H fp S1 H1 fp1 x e} (h : exW K mg W S H fp σ x e) (y : Ext S H fp S1 H1 fp1) : exW K mg W S1 H1 fp1 σ x e := fun S' H' fp' c dd a b d => h S' H' fp' c dd (y.trans a) b d
/-- the second part, while the first waits -/
theorem TR.next {α β γ δ : Type} {R : SP' → Hp → α → List Addr → β → Prop} {R' : SP' → Hp → γ → List Addr → δ → Prop} {m : M α} {k : α → En → Rs γ} {Q : δ → Hp → Prop} {Q1 : β → Hp → Prop}
    (wd : Wd K S1 H1 e1 fp1 σ) (ext : Ext S H fp S1 H1 (fx ++ fp1)) (sep : Sep S1 H1 (fx ++ fp1))
    (h : ((m e1).then k).post (fun y e' => ∀ S' H' fp' fy u, Ext S H fp S' H' (fy ++ fp') → Wd K S' H' e' fp' σ → Sep S' H' (fy ++ fp') → R' S' H' y fy u → Q u H') (fun x e' => exW K mg W S H fp σ x e'))
    (f : ∀ S2 H2 e2 fp2 fy y v, Ext S H fp S2 H2 (fx ++ (fy ++ fp2)) → Stb S1 H1 S2 H2 → (∀ a ∈ fx, H2 a = H1 a) → Wd K S2 H2 e2 fp2 σ → Sep S2 H2 (fx ++ (fy ++ fp2)) → R S2 H2 y fy v →
      (k y e2).post (fun y e' => ∀ S' H' fp' fy u, Ext S H fp S' H' (fy ++ fp') → Wd K S' H' e' fp' σ → Sep S' H' (fy ++ fp') → R' S' H' y fy u → Q u H') (fun x e' => exW K mg W S H fp σ x e') → Q1 v H2) :
    TR K mg W R m σ H1 Q1 := by
  refine ⟨S1, e1, fp1, wd, ?_⟩
  cases q : m e1 with
  | ok x e' =>
    simp only [q, Rs.then] at h
    intro S' H' fp' fy v a b c d
    obtain ⟨s1, s2⟩ := sep.wait a c
    exact f S' H' e' fp' fy x v (ext.wait a) (a.stb sep.app2) s2 b s1 d h
  | ex x e' =>
    simp only [q, Rs.then] at h
    exact h.more ext.drop
  | bad => simp only [q, Rs.then] at h; exact h
end

/-! ### operators -/
/-- f says what a two-place rule r gives -/
def Op2 (K : PySem.W.Frag) (RX RY : SP' → Hp → Vl → List Addr → V → Prop) (f : Vl → Vl → Option Vl) (r : R2) : Prop :=
  ∀ (S : SP') (H : Hp) (x y z : Vl) (fx fy : List Addr) (u v : V) (Q : VK), f x y = some z → (∀ a, S a → ∃ xs, H a = some (.lst xs)) → Sep S H (fx ++ fy) → RX S H x fx u → RY S H y fy v →
    (∀ H' fz w, (∀ a o, H a = some o → H' a = some o) → (∀ a ∈ fz, H a = none) → Sep S H' fz → repV K S H' z fz w → Q w H') → r u v H Q
def Op1 (K : PySem.W.Frag) (RX : SP' → Hp → Vl → List Addr → V → Prop) (f : Vl → Option Vl) (r : V → Hp → VK → Prop) : Prop :=
  ∀ (S : SP') (H : Hp) (x z : Vl) (fx : List Addr) (u : V) (Q : VK), f x = some z → (∀ a, S a → ∃ xs, H a = some (.lst xs)) → Sep S H fx → RX S H x fx u →
    (∀ H' fz w, (∀ a o, H a = some o → H' a = some o) → (∀ a ∈ fz, H a = none) → Sep S H' fz → repV K S H' z fz w → Q w H') → r u H Q

section
variable {K : PySem.W.Frag} {S S1 : SP'} {H H1 H' : Hp} {e : En} {fp fp1 fx fz : List Addr} {σ : L2.St}
/-- new things beside -/
theorem Ext.grow (x : Ext S H fp S1 H1 fp1) (k : ∀ a o, H1 a = some o → H' a = some o) (f : ∀ a ∈ fz, H1 a = none) : Ext S H fp S1 H' (fz ++ fp1) where
  keep := fun a o h hm => k a o (x.keep a o h hm)
  fresh := fun a q => by
    rcases List.mem_append.mp q with q | q
    · exact x.back (f a q)
    · exact x.fresh a q
  mono := x.mono
  sfr := x.sfr
theorem Stb.grow (k : ∀ a o, H a = some o → H' a = some o) : Stb S H S H' := ⟨fun _ h => h, fun a o h _ => k a o h⟩
theorem Wd.grow (wd : Wd K S H e fp σ) (k : ∀ a o, H a = some o → H' a = some o) : Wd K S H' e fp σ := by
  have eq : ∀ a ∈ fp, H' a = H a := fun a q => by
    obtain ⟨o, ho, _⟩ := wd.sep.ow a q
    rw [ho]; exact k a o ho
  refine ⟨envR.stb (Stb.grow k) e fp σ eq wd.env, ⟨wd.sep.nd, wd.sep.ns, fun a q => ?_⟩, fun a q => ?_⟩
  · obtain ⟨o, ho, w⟩ := wd.sep.ow a q
    exact ⟨o, k a o ho, w⟩
  · obtain ⟨xs, h⟩ := wd.dom a q
    exact ⟨xs, k a _ h⟩
theorem Sep.grow (sp : Sep S H fp) (sz : Sep S H' fz) (k : ∀ a o, H a = some o → H' a = some o) (f : ∀ a ∈ fz, H a = none) : Sep S H' (fz ++ fp) where
  nd := List.nodup_append.mpr ⟨sz.nd, sp.nd, fun a p b q e => by
    subst e
    obtain ⟨o, ho, _⟩ := sp.ow a q
    rw [f a p] at ho; cases ho⟩
  ns := fun a q => by
    rcases List.mem_append.mp q with q | q
    · exact sz.ns a q
    · exact sp.ns a q
  ow := fun a q => by
    rcases List.mem_append.mp q with q | q
    · exact sz.ow a q
    · obtain ⟨o, ho, w⟩ := sp.ow a q
      exact ⟨o, k a o ho, w⟩
end
def Rpv (K : PySem.W.Frag) := repV K
/-- kinds of values that wait -/
def Wt (R : SP' → Hp → Vl → List Addr → V → Prop) : Prop := ∀ S H S1 H1 x fx v, Stb S H S1 H1 → (∀ a ∈ fx, H1 a = H a) → R S H x fx v → R S1 H1 x fx v
theorem wt_rep (K : PySem.W.Frag) : Wt (repV K) := fun _ _ _ _ _ _ _ x k h => h.stb x k
section
variable {X : Cx} {W : WX} {a b c : Expr} {pos : Pos} {m n o : M Vl} {RX RY : SP' → Hp → Vl → List Addr → V → Prop}
theorem op2_tr {f : Vl → Vl → Option Vl} {r : R2} (ok : Op2 X.K RX RY f r) (wt : Wt RX) {σ : L2.St} {H : Hp} {Q : VK} (h : TR X.K X.mg W (repV X.K) (e2 f m n) σ H Q) :
    tOp r (TR X.K X.mg W RX m) (TR X.K X.mg W RY n) σ H Q := by
  refine TR.bind (k := fun x e => (n e).then fun y e => lift (f x y) e) h fun S e fp S1 H1 e1 fp1 fx x v wd ext wd1 sep1 rx p => ?_
  refine TR.next (k := fun y e => lift (f x y) e) wd1 ext sep1 p fun S2 H2 e2 fp2 fy y u ext2 st keep wd2 sep2 ry p2 => ?_
  cases q : f x y with
  | none => rw [q] at p2; exact p2.elim
  | some z =>
    rw [q] at p2
    have sxy : Sep S2 H2 (fx ++ fy) := by
      have h := sep2
      rw [← List.append_assoc] at h
      exact h.app1
    refine ok S2 H2 x y z fx fy v u Q q wd2.dom sxy (wt _ _ _ _ _ _ _ st keep rx) ry fun H' fz w k fr sz rz => ?_
    have ext3 : Ext S H fp S2 H2 fp2 := (ext2.drop).drop
    exact p2 S2 H' fp2 fz w (ext3.grow k fr) (wd2.grow k) (wd2.sep.grow sz k fr) rz
theorem op1_tr {f : Vl → Option Vl} {r : V → Hp → VK → Prop} (ok : Op1 X.K RX f r) {σ : L2.St} {H : Hp} {Q : VK} (h : TR X.K X.mg W (repV X.K) (e1 f m) σ H Q) :
    tUn r (TR X.K X.mg W RX m) σ H Q := by
  refine TR.bind (k := fun x e => lift (f x) e) h fun S e fp S1 H1 e1 fp1 fx x v wd ext wd1 sep1 rx p => ?_
  cases q : f x with
  | none => rw [q] at p; exact p.elim
  | some z =>
    rw [q] at p
    refine ok S1 H1 x z fx v Q q wd1.dom sep1.app1 rx fun H' fz w k fr sz rz => ?_
    exact p S1 H' fp1 fz w (ext.drop.grow k fr) (wd1.grow k) (wd1.sep.grow sz k fr) rz
theorem de_op {op : Operator} {f : Vl → Vl → Option Vl} {r : R2} (ho : OpR X (binaryOp op) r) (ok : Op2 X.K (repV X.K) (repV X.K) f r) (ha : DE X W a m) (hb : DE X W b n) : DE X W (.BinOp a op b pos) (e2 f m n) :=
  ⟨PEm (pe_op ho ha.p hb.p) fun σ H Q h => op2_tr ok (wt_rep _) h⟩
theorem de_un {op : UnaryOp} {f : Vl → Option Vl} {r : V → Hp → VK → Prop} (ho : UnR X (unaryOp op) r) (ok : Op1 X.K (repV X.K) f r) (ha : DE X W a m) : DE X W (.UnaryOp op a pos) (e1 f m) :=
  ⟨PEm (pe_un ho ha.p) fun σ H Q h => op1_tr ok h⟩
theorem de_dp (h : DE X W a m) : DP X W a m := ⟨PEm h.p fun σ H Q => TR.mono fun S H x fx v r => by
  unfold RP
  split
  · obtain ⟨h1, h2⟩ := r
    unfold rep at h2
    obtain ⟨a, vs, e, h3, h4⟩ := h2
    exact ⟨h1, a, vs, e, h3.sq, h4⟩
  · exact r⟩
end
end Fx
end

section
set_option Elab.async false
set_option linter.all false
set_option maxRecDepth 100000
set_option maxHeartbeats 4000000
/-! Wc: the operators one by one. -/
namespace Fx
open PySem PySem.Spec PyProof.Rows L2

/-! ### equality -/
mutual
def D.py : D → PyData
  | .non => .none
  | .bl b => .bool b
  | .int i => .int i
  | .str s => .str (Str.ofString s)
  | .tup l => .tuple (D.pys l)
  | .lst l => .list (D.pys l)
def D.pys : List D → List PyData
  | [] => []
  | d :: l => D.py d :: D.pys l
end
mutual
theorem py_plain : ∀ d : D, d.py.plain = true
  | .non => rfl
  | .bl _ => rfl
  | .int _ => rfl
  | .str _ => rfl
  | .tup l => by simp only [D.py, PyData.plain]; exact pys_plain l
  | .lst l => by simp only [D.py, PyData.plain]; exact pys_plain l
theorem pys_plain : ∀ l : List D, PyData.plainAll (D.pys l) = true
  | [] => rfl
  | d :: l => by simp only [D.pys, PyData.plainAll, py_plain d, pys_plain l, Bool.and_self]
end
mutual
theorem py_dep : ∀ d : D, d.py.depth = d.dep
  | .non => rfl
  | .bl _ => rfl
  | .int _ => rfl
  | .str _ => rfl
  | .tup l => by simp only [D.py, PyData.depth, D.dep, pys_dep l]
  | .lst l => by simp only [D.py, PyData.depth, D.dep, pys_dep l]
theorem pys_dep : ∀ l : List D, PyData.depthAll (D.pys l) = D.deps l
  | [] => rfl
  | d :: l => by simp only [D.pys, PyData.depthAll, D.deps, py_dep d, pys_dep l]
end
theorem ofS_inj {a b : String} (h : Str.ofString a = Str.ofString b) : a = b := by
  rw [Str.ofString_eq_toList, Str.ofString_eq_toList] at h
  have h1 : (a.toList.map Char.toNat).toArray = (b.toList.map Char.toNat).toArray := Str.mk.inj h
  have h2 : a.toList.map Char.toNat = b.toList.map Char.toNat := by simpa using congrArg Array.toList h1
  have inj : ∀ c d : Char, c.toNat = d.toNat → c = d := fun c d e => Char.ext (UInt32.toNat_inj.mp e)
  have h3 : a.toList = b.toList := by
    have key : ∀ l m : List Char, l.map Char.toNat = m.map Char.toNat → l = m := by
      intro l
      induction l with
      | nil => intro m e; cases m with
        | nil => rfl
        | cons _ _ => simp at e
      | cons c l ih => intro m e; cases m with
        | nil => simp at e
        | cons d m =>
          simp only [List.map_cons, List.cons.injEq] at e
          rw [inj c d e.1, ih m e.2]
    exact key _ _ h2
  exact String.toList_inj.mp h3
theorem ofS_eq (a b : String) : (Str.ofString a == Str.ofString b) = decide (a = b) := by
  by_cases e : a = b
  · subst e; simp
  · have : ¬ Str.ofString a = Str.ofString b := fun z => e (ofS_inj z)
    rw [decide_eq_false e]
    simpa using this
mutual
theorem py_eq : ∀ a b : D, PyData.eqv a.py b.py = D.eq a b
  | .non, b => by cases b <;> rfl
  | .bl x, b => by cases b <;> first | rfl | (simp only [D.py, PyData.eqv, D.eq, b2i]; exact (Bool.beq_eq_decide_eq _ _))
  | .int x, b => by cases b <;> first | rfl | (simp only [D.py, PyData.eqv, D.eq, b2i]; exact (Bool.beq_eq_decide_eq _ _))
  | .str x, b => by cases b <;> first | rfl | (simp only [D.py, PyData.eqv, D.eq]; exact ofS_eq _ _)
  | .tup l, b => by cases b <;> first | rfl | (simp only [D.py, PyData.eqv, D.eq]; exact pys_eq l _)
  | .lst l, b => by cases b <;> first | rfl | (simp only [D.py, PyData.eqv, D.eq]; exact pys_eq l _)
theorem pys_eq : ∀ l m : List D, PyData.eqvAll (D.pys l) (D.pys m) = D.eqs l m
  | [], m => by cases m <;> rfl
  | a :: l, m => by
    cases m with
    | nil => rfl
    | cons b m => simp only [D.pys, PyData.eqvAll, D.eqs, py_eq a b, pys_eq l m]
end
section
variable {K : PySem.W.Frag} {S : SP'} {H : Hp}
mutual
theorem rep.dp : ∀ {d : D} {v : V}, rep K S H d v → Dp K H v d.py
  | .non, _, h => by unfold rep at h; subst h; exact .non
  | .bl b, _, h => by unfold rep at h; subst h; exact .bl b
  | .int b, _, h => by unfold rep at h; subst h; exact .int b
  | .str b, _, h => by unfold rep at h; subst h; exact .str _
  | .tup ds, _, h => by
    unfold rep at h
    obtain ⟨a, vs, h1, h2, h3⟩ := h
    subst h1
    simp only [D.py]
    exact .tup h2.sq (reps.dp h3)
  | .lst ds, _, h => by
    unfold rep at h
    obtain ⟨a, vs, h1, h2, h3⟩ := h
    subst h1
    simp only [D.py]
    exact .lst h2.sq (reps.dp h3)
theorem reps.dp : ∀ {ds : List D} {vs : List V}, reps K S H ds vs → DpAll K H vs (D.pys ds)
  | [], _, h => by unfold reps at h; subst h; exact .nil
  | d :: ds, _, h => by
    unfold reps at h
    obtain ⟨v, r, h1, h2, h3⟩ := h
    subst h1
    exact .cons (rep.dp h2) (reps.dp h3)
end
theorem rows.dp : ∀ {ls : List (List D)} {as : List Addr} {vs : List V}, rows K S H ls as vs → DpAll K H vs (D.pys (ls.map .lst))
  | [], _, _, h => by unfold rows at h; rw [h.2]; exact .nil
  | l :: ls, _, _, h => by
    unfold rows at h
    obtain ⟨b, r, ws, rs, h1, h2, h3, h4, h5⟩ := h
    subst h2
    exact .cons (by simp only [D.py]; exact .lst (.inl (.inl h3)) h4.dp) (rows.dp h5)
theorem RP.dp {x : Vl} {d : D} {fx : List Addr} {v : V} (e : x.d = some d) (h : RP K S H x fx v) : Dp K H v d.py := by
  cases x with
  | v d' =>
    simp only [Vl.d, Option.some.injEq] at e
    subst e
    cases d' with
    | lst l =>
      obtain ⟨_, a, vs, h1, h2, h3⟩ := h
      subst h1
      simp only [D.py]
      exact .lst h2 h3.dp
    | _ => exact rep.dp h.2
  | o l =>
    simp only [Vl.d, Option.some.injEq] at e
    subst e
    obtain ⟨a, vs, h1, h2, h3, h4⟩ := h
    subst h1
    simp only [D.py]
    exact .lst (.inl (.inl h3)) h4.dp
  | oo l =>
    simp only [Vl.d, Option.some.injEq] at e
    subst e
    obtain ⟨a, vs, as, h1, h2, h3, h4⟩ := h
    subst h1
    simp only [D.py]
    exact .lst (.inl (.inl h3)) h4.dp
  | dc _ => simp [Vl.d] at e
  | rg _ _ => simp [Vl.d] at e
theorem repV.rp {x : Vl} {fx : List Addr} {v : V} (r : repV K S H x fx v) : RP K S H x fx v := by
  unfold RP
  split
  · obtain ⟨h1, h2⟩ := r
    unfold rep at h2
    obtain ⟨a, vs, e, h3, h4⟩ := h2
    exact ⟨h1, a, vs, e, h3.sq, h4⟩
  · exact r
/-- the items of a value that is looked at -/
theorem RP.items {x : Vl} {l : List D} {fx : List Addr} {v : V} (e : x.items = some l) (h : RP K S H x fx v) :
    ∃ a vs, v = .ref a ∧ (SqL K H a vs ∨ SqT K H a vs) ∧ reps K S H l vs := by
  cases x with
  | v d =>
    cases d with
    | lst m =>
      obtain ⟨_, a, vs, h1, h2, h3⟩ := h
      simp only [Vl.items, D.items, Option.some.injEq] at e
      subst e
      exact ⟨a, vs, h1, .inl h2, h3⟩
    | tup m =>
      have h2 : rep K S H (.tup m) v := h.2
      unfold rep at h2
      obtain ⟨a, vs, h1, h2, h3⟩ := h2
      simp only [Vl.items, D.items, Option.some.injEq] at e
      subst e
      exact ⟨a, vs, h1, .inr h2.sq, h3⟩
    | _ => simp [Vl.items, D.items] at e
  | o m =>
    obtain ⟨a, vs, h1, h2, h3, h4⟩ := h
    simp only [Vl.items, Option.some.injEq] at e
    subst e
    exact ⟨a, vs, h1, .inl (.inl (.inl h3)), h4⟩
  | oo m => simp [Vl.items] at e
  | dc _ => simp [Vl.items] at e
  | rg _ _ => simp [Vl.items] at e
end
section
variable {X : Cx} {W : WX} {a b : Expr} {pos : Pos} {m n : M Vl}
def rEq' (K : PySem.W.Frag) : R2 := fun x y H Q => ∃ d e : D, Dp K H x d.py ∧ Dp K H y e.py ∧ min d.dep e.dep ≤ 64 ∧ Q (.bl (D.eq d e)) H
def rNe' (K : PySem.W.Frag) : R2 := fun x y H Q => ∃ d e : D, Dp K H x d.py ∧ Dp K H y e.py ∧ min d.dep e.dep ≤ 64 ∧ Q (.bl (!D.eq d e)) H
theorem opEq (hu : X.A.units + 66 < cLine) : OpR X (compareOp .Eq) (rEq' X.K) := by
  intro pins s σ H x y v u Q I rx ry h
  obtain ⟨d, e, hd, he, hm, q⟩ := h
  obtain ⟨as, r1⟩ := Dp.reads I _ x v hd rx
  obtain ⟨bs, r2⟩ := Dp.reads I _ y u he ry
  exact SeqAt.eq_plain r1 r2 (py_plain d) (py_plain e) (by rw [py_dep, py_dep]; omega) ⟨.bl _, H, I, by rw [py_eq]; rfl, q⟩
theorem opNe (hu : X.A.units + 66 < cLine) : OpR X (compareOp .NotEq) (rNe' X.K) := by
  intro pins s σ H x y v u Q I rx ry h
  obtain ⟨d, e, hd, he, hm, q⟩ := h
  obtain ⟨as, r1⟩ := Dp.reads I _ x v hd rx
  obtain ⟨bs, r2⟩ := Dp.reads I _ y u he ry
  exact SeqAt.ne_plain r1 r2 (py_plain d) (py_plain e) (by rw [py_dep, py_dep]; omega) ⟨.bl _, H, I, by rw [py_eq]; rfl, q⟩
theorem pure_end {K : PySem.W.Frag} {S : SP'} {H : Hp} {d : D} {w : V} {Q : VK} (r : rep K S H d w)
    (h : ∀ H' fz w, (∀ a o, H a = some o → H' a = some o) → (∀ a ∈ fz, H a = none) → Sep S H' fz → repV K S H' (.v d) fz w → Q w H') : Q w H :=
  h H [] w (fun _ _ h => h) (fun _ h => absurd h (by simp)) Sep.nil ⟨rfl, r⟩
theorem rep_bl {K : PySem.W.Frag} {S : SP'} {H : Hp} (b : Bool) : rep K S H (.bl b) (.bl b) := by unfold rep; rfl
theorem rep_int {K : PySem.W.Frag} {S : SP'} {H : Hp} (i : Int) : rep K S H (.int i) (.int i) := by unfold rep; rfl
theorem ok_eq {K : PySem.W.Frag} : Op2 K (RP K) (RP K) oEq (rEq' K) := by
  intro S H x y z fx fy u v Q e dom sep rx ry h
  unfold oEq Vl.eq at e
  cases ex : x.d with
  | none => simp [ex] at e
  | some d =>
    cases ey : y.d with
    | none => simp [ex, ey] at e
    | some d' =>
      simp only [ex, ey] at e
      by_cases hm : min d.dep d'.dep ≤ 64
      · simp only [hm, if_true, Option.map_some, Option.some.injEq] at e
        subst e
        exact ⟨d, d', rx.dp ex, ry.dp ey, hm, pure_end (rep_bl _) h⟩
      · simp [hm] at e
theorem ok_ne {K : PySem.W.Frag} : Op2 K (RP K) (RP K) oNe (rNe' K) := by
  intro S H x y z fx fy u v Q e dom sep rx ry h
  unfold oNe Vl.eq at e
  cases ex : x.d with
  | none => simp [ex] at e
  | some d =>
    cases ey : y.d with
    | none => simp [ex, ey] at e
    | some d' =>
      simp only [ex, ey] at e
      by_cases hm : min d.dep d'.dep ≤ 64
      · simp only [hm, if_true, Option.map_some, Option.some.injEq] at e
        subst e
        exact ⟨d, d', rx.dp ex, ry.dp ey, hm, pure_end (rep_bl _) h⟩
      · simp [hm] at e
/-! in -/
def rIn' (K : PySem.W.Frag) (neg : Bool) : R2 := fun x y H Q => ∃ (d : D) (l : List D) (a : Addr) (vs : List V), Dp K H x d.py ∧ y = .ref a ∧ (SqL K H a vs ∨ SqT K H a vs) ∧ DpAll K H vs (D.pys l) ∧ d.dep ≤ 64 ∧ Q (.bl (if neg then !inD d l else inD d l)) H
theorem any_in (d : D) : ∀ l : List D, ((D.pys l).any fun y => PyData.eqv y d.py) = inD d l
  | [] => rfl
  | a :: l => by
    have h := any_in d l
    unfold inD at h ⊢
    simp only [D.pys, List.any_cons, py_eq, h]
theorem op_in' (neg : Bool) (hu : X.A.units + 66 < cLine) : OpR X (compareOp (if neg then .NotIn else .In)) (rIn' X.K neg) := by
  intro pins s σ H x y v u Q I rx ry h
  obtain ⟨d, l, a, vs, hd, rfl, hq, hl, hm, q⟩ := h
  obtain ⟨bs, r2⟩ := Dp.reads I _ x v hd rx
  have rc : (∃ as, Reads s.heap u (.list (D.pys l)) as) ∨ ∃ as, Reads s.heap u (.tuple (D.pys l)) as := by
    rcases hq with hq | hq
    · exact .inl (Dp.reads I (.list (D.pys l)) _ u (.lst hq hl) ry)
    · exact .inr (Dp.reads I (.tuple (D.pys l)) _ u (.tup hq hl) ry)
  have hd' : X.A.units + 1 + min (PyData.depthAll (D.pys l)) d.py.depth < cLine := by rw [py_dep]; omega
  cases neg
  · rcases rc with ⟨as, rc⟩ | ⟨as, rc⟩
    · exact SeqAt.in_list_data rc r2 (pys_plain l) (py_plain d) hd' ⟨.bl _, H, I, by rw [any_in]; rfl, q⟩
    · exact SeqAt.in_tuple_data rc r2 (pys_plain l) (py_plain d) hd' ⟨.bl _, H, I, by rw [any_in]; rfl, q⟩
  · rcases rc with ⟨as, rc⟩ | ⟨as, rc⟩
    · exact SeqAt.notIn_list_data rc r2 (pys_plain l) (py_plain d) hd' ⟨.bl _, H, I, by rw [any_in]; rfl, q⟩
    · exact SeqAt.notIn_tuple_data rc r2 (pys_plain l) (py_plain d) hd' ⟨.bl _, H, I, by rw [any_in]; rfl, q⟩
theorem op_in1 (hu : X.A.units + 66 < cLine) : OpR X (compareOp .In) (rIn' X.K false) := op_in' false hu
theorem op_in2 (hu : X.A.units + 66 < cLine) : OpR X (compareOp .NotIn) (rIn' X.K true) := op_in' true hu
theorem ok_in {K : PySem.W.Frag} : Op2 K (RP K) (RP K) oIn (rIn' K false) := by
  intro S H x y z fx fy u v Q e dom sep rx ry h
  unfold oIn at e
  cases ex : x.d with
  | none => simp [ex] at e
  | some d =>
    cases ey : y.items with
    | none => simp [ex, ey] at e
    | some l =>
      simp only [ex, ey] at e
      by_cases hm : d.dep ≤ 64
      · simp only [hm, if_true, Option.some.injEq] at e
        subst e
        obtain ⟨a, vs, e1, e2, e3⟩ := ry.items ey
        exact ⟨d, l, a, vs, rx.dp ex, e1, e2, e3.dp, hm, pure_end (rep_bl _) h⟩
      · simp [hm] at e
theorem ok_notIn {K : PySem.W.Frag} : Op2 K (RP K) (RP K) oNotIn (rIn' K true) := by
  intro S H x y z fx fy u v Q e dom sep rx ry h
  unfold oNotIn at e
  cases ex : x.d with
  | none => simp [ex] at e
  | some d =>
    cases ey : y.items with
    | none => simp [ex, ey] at e
    | some l =>
      simp only [ex, ey] at e
      by_cases hm : d.dep ≤ 64
      · simp only [hm, if_true, Option.some.injEq] at e
        subst e
        obtain ⟨a, vs, e1, e2, e3⟩ := ry.items ey
        exact ⟨d, l, a, vs, rx.dp ex, e1, e2, e3.dp, hm, pure_end (rep_bl _) h⟩
      · simp [hm] at e
/-! ints -/
theorem rep_inv_int {K : PySem.W.Frag} {S : SP'} {H : Hp} {i : Int} {fx : List Addr} {v : V} (h : repV K S H (.v (.int i)) fx v) : v = .int i := by
  have := h.2
  unfold rep at this
  exact this
theorem ok_int2 {K : PySem.W.Frag} {f : Vl → Vl → Option Vl} {r : R2} (g : Int → Int → Option D) (gv : ∀ i j d, g i j = some d → ∀ (K : PySem.W.Frag) S H, ∃ w, rep K S H d w ∧ ∀ H Q, Q w H → r (.int i) (.int j) H Q)
    (hf : ∀ x y z, f x y = some z → ∃ i j d, x = .v (.int i) ∧ y = .v (.int j) ∧ g i j = some d ∧ z = .v d) : Op2 K (repV K) (repV K) f r := by
  intro S H x y z fx fy u v Q e dom sep rx ry h
  obtain ⟨i, j, d, rfl, rfl, hg, rfl⟩ := hf x y z e
  rw [rep_inv_int rx, rep_inv_int ry]
  obtain ⟨w, hw, hr⟩ := gv i j d hg K S H
  exact hr H Q (pure_end hw h)
theorem ok_lt {K : PySem.W.Frag} : Op2 K (repV K) (repV K) oLt (rI0 fun i j => .bl (decide (i < j))) :=
  ok_int2 (fun i j => some (.bl (decide (i < j)))) (fun i j d e K S H => by cases e; exact ⟨_, rep_bl _, fun H Q q => ⟨i, j, rfl, rfl, q⟩⟩) fun x y z e => by
    unfold oLt at e
    split at e
    · cases e; exact ⟨_, _, _, rfl, rfl, rfl, rfl⟩
    · cases e
theorem ok_le {K : PySem.W.Frag} : Op2 K (repV K) (repV K) oLe (rI0 fun i j => .bl (decide (i ≤ j))) :=
  ok_int2 (fun i j => some (.bl (decide (i ≤ j)))) (fun i j d e K S H => by cases e; exact ⟨_, rep_bl _, fun H Q q => ⟨i, j, rfl, rfl, q⟩⟩) fun x y z e => by
    unfold oLe at e
    split at e
    · cases e; exact ⟨_, _, _, rfl, rfl, rfl, rfl⟩
    · cases e
theorem ok_gt {K : PySem.W.Frag} : Op2 K (repV K) (repV K) oGt (rI0 fun i j => .bl (decide (j < i))) :=
  ok_int2 (fun i j => some (.bl (decide (j < i)))) (fun i j d e K S H => by cases e; exact ⟨_, rep_bl _, fun H Q q => ⟨i, j, rfl, rfl, q⟩⟩) fun x y z e => by
    unfold oGt at e
    split at e
    · cases e; exact ⟨_, _, _, rfl, rfl, rfl, rfl⟩
    · cases e
theorem ok_ge {K : PySem.W.Frag} : Op2 K (repV K) (repV K) oGe (rI0 fun i j => .bl (decide (j ≤ i))) :=
  ok_int2 (fun i j => some (.bl (decide (j ≤ i)))) (fun i j d e K S H => by cases e; exact ⟨_, rep_bl _, fun H Q q => ⟨i, j, rfl, rfl, q⟩⟩) fun x y z e => by
    unfold oGe at e
    split at e
    · cases e; exact ⟨_, _, _, rfl, rfl, rfl, rfl⟩
    · cases e
theorem ok_sub {K : PySem.W.Frag} : Op2 K (repV K) (repV K) oSub (rI0 fun i j => .int (i - j)) :=
  ok_int2 (fun i j => some (.int (i - j))) (fun i j d e K S H => by cases e; exact ⟨_, rep_int _, fun H Q q => ⟨i, j, rfl, rfl, q⟩⟩) fun x y z e => by
    unfold oSub at e
    split at e
    · cases e; exact ⟨_, _, _, rfl, rfl, rfl, rfl⟩
    · cases e
theorem ok_mod {K : PySem.W.Frag} : Op2 K (repV K) (repV K) oMod (rI (fun _ j => 0 < j) fun i j => .int (i % j)) :=
  ok_int2 (fun i j => if 0 < j then some (.int (i % j)) else none) (fun i j d e K S H => by
      split at e
      · cases e; exact ⟨_, rep_int _, fun H Q q => ⟨i, j, rfl, rfl, by assumption, q⟩⟩
      · cases e) fun x y z e => by
    unfold oMod at e
    split at e
    · split at e
      · cases e; exact ⟨_, _, _, rfl, rfl, if_pos (by assumption), rfl⟩
      · cases e
    · cases e
theorem ok_div {K : PySem.W.Frag} : Op2 K (repV K) (repV K) oDiv (rI CDivW fun i j => .int (i / j)) :=
  ok_int2 (fun i j => if divOk j then some (.int (i / j)) else none) (fun i j d e K S H => by
      split at e
      · rename_i hd
        unfold divOk at hd
        simp only [Bool.and_eq_true, decide_eq_true_eq] at hd
        cases e; exact ⟨_, rep_int _, fun H Q q => ⟨i, j, rfl, rfl, hd, q⟩⟩
      · cases e) fun x y z e => by
    unfold oDiv at e
    split at e
    · split at e
      · cases e; exact ⟨_, _, _, rfl, rfl, if_pos (by assumption), rfl⟩
      · cases e
    · cases e
theorem ok_pow {K : PySem.W.Frag} : Op2 K (repV K) (repV K) oPow (rI CPow fun i j => .int (i ^ j.toNat)) :=
  ok_int2 (fun i j => if 0 ≤ j ∧ j ≤ 1000000 ∧ i.natAbs < 2 ^ 64 then some (.int (i ^ j.toNat)) else none) (fun i j d e K S H => by
      split at e
      · rename_i hd
        cases e; exact ⟨_, rep_int _, fun H Q q => ⟨i, j, rfl, rfl, hd, q⟩⟩
      · cases e) fun x y z e => by
    unfold oPow at e
    split at e
    · split at e
      · cases e; exact ⟨_, _, _, rfl, rfl, if_pos (by assumption), rfl⟩
      · cases e
    · cases e
end
end Fx
end

section
set_option Elab.async false
set_option linter.all false
set_option maxRecDepth 100000
set_option maxHeartbeats 4000000
/-! Wd: names, tests, displays, sums, places, built-ins. -/
namespace Fx
open PySem PySem.Spec PyProof.Rows L2

section
variable {K : PySem.W.Frag} {mg : Str → Option Value} {S S1 : SP'} {H H1 : Hp}
/-! ### the names' part, by places -/
theorem envR.at : ∀ {e : En} {fp : List Addr} {σ : L2.St} {i : Nat} {x : Vl}, envR K S H e fp σ → e[i]? = some (some x) →
    ∃ v f1 f2 f3, σ[i]? = some (some v) ∧ fp = f1 ++ (f2 ++ f3) ∧ repV K S H x f2 v ∧
      (∀ (S' : SP') (H' : Hp) (y : Option Vl) (g : List Addr) (w : Option V), Stb S H S' H' → (∀ a ∈ f1 ++ f3, H' a = H a) →
        (match y with | some y => ∃ w', w = some w' ∧ repV K S' H' y g w' | none => g = []) → envR K S' H' (e.set i y) (f1 ++ (g ++ f3)) (σ.set i w))
  | [], _, _, _, _, _, e => by simp at e
  | none :: e, fp, σ, 0, _, _, e' => by simp at e'
  | none :: e, fp, σ, i + 1, x, h, e' => by
    unfold envR at h
    obtain ⟨s, r, h1, h2⟩ := h
    subst h1
    obtain ⟨v, f1, f2, f3, q1, q2, q3, q4⟩ := envR.at (i := i) h2 (by simpa using e')
    refine ⟨v, f1, f2, f3, by simpa using q1, q2, q3, fun S' H' y g w st k hy => ?_⟩
    simp only [List.set_cons_succ]
    unfold envR
    exact ⟨s, _, rfl, q4 S' H' y g w st k hy⟩
  | some y :: e, fp, σ, 0, x, h, e' => by
    unfold envR at h
    obtain ⟨v, r, f1, f2, h1, h2, h3, h4⟩ := h
    simp at e'
    subst h1 h2 e'
    refine ⟨v, [], f1, f2, rfl, rfl, h3, fun S' H' z g w st k hz => ?_⟩
    simp only [List.set_cons_zero, List.nil_append]
    have h4' := envR.stb st e f2 r (fun a q => k a (by simpa using q)) h4
    cases z with
    | none =>
      subst hz
      unfold envR
      exact ⟨w, r, rfl, h4'⟩
    | some z =>
      obtain ⟨w', e1, e2⟩ := hz
      subst e1
      unfold envR
      exact ⟨w', r, g, f2, rfl, rfl, e2, h4'⟩
  | some y :: e, fp, σ, i + 1, x, h, e' => by
    unfold envR at h
    obtain ⟨v, r, f1, f2, h1, h2, h3, h4⟩ := h
    subst h1 h2
    obtain ⟨v', g1, g2, g3, q1, q2, q3, q4⟩ := envR.at (i := i) h4 (by simpa using e')
    subst q2
    refine ⟨v', f1 ++ g1, g2, g3, by simpa using q1, by simp, q3, fun S' H' z g w st k hz => ?_⟩
    simp only [List.set_cons_succ]
    unfold envR
    refine ⟨v, _, f1, g1 ++ (g ++ g3), rfl, by simp, h3.stb st fun a q => k a (by simp [q]), q4 S' H' z g w st (fun a q => k a ?_) hz⟩
    simp only [List.mem_append] at q ⊢
    rcases q with q | q
    · exact .inl (.inr q)
    · exact .inr q
/-- a place that is stored, whatever it held -/
theorem envR.put : ∀ {e : En} {fp : List Addr} {σ : L2.St} {i : Nat}, envR K S H e fp σ → i < e.length →
    ∃ f1 f2 f3, fp = f1 ++ (f2 ++ f3) ∧
      (∀ (S' : SP') (H' : Hp) (y : Option Vl) (g : List Addr) (w : Option V), Stb S H S' H' → (∀ a ∈ f1 ++ f3, H' a = H a) →
        (match y with | some y => ∃ w', w = some w' ∧ repV K S' H' y g w' | none => g = []) → envR K S' H' (e.set i y) (f1 ++ (g ++ f3)) (σ.set i w))
  | [], _, _, _, _, e => by simp at e
  | none :: e, fp, σ, 0, h, _ => by
    unfold envR at h
    obtain ⟨s, r, h1, h2⟩ := h
    subst h1
    refine ⟨[], [], fp, rfl, fun S' H' z g w st k hz => ?_⟩
    simp only [List.set_cons_zero, List.nil_append]
    have h4' := envR.stb st e fp r (fun a q => k a (by simpa using q)) h2
    cases z with
    | none =>
      subst hz
      unfold envR
      exact ⟨w, r, rfl, h4'⟩
    | some z =>
      obtain ⟨w', e1, e2⟩ := hz
      subst e1
      unfold envR
      exact ⟨w', r, g, fp, rfl, rfl, e2, h4'⟩
  | none :: e, fp, σ, i + 1, h, e' => by
    unfold envR at h
    obtain ⟨s, r, h1, h2⟩ := h
    subst h1
    obtain ⟨f1, f2, f3, q2, q4⟩ := envR.put (i := i) h2 (by simpa using e')
    refine ⟨f1, f2, f3, q2, fun S' H' y g w st k hy => ?_⟩
    simp only [List.set_cons_succ]
    unfold envR
    exact ⟨s, _, rfl, q4 S' H' y g w st k hy⟩
  | some y :: e, fp, σ, 0, h, _ => by
    unfold envR at h
    obtain ⟨v, r, f1, f2, h1, h2, h3, h4⟩ := h
    subst h1 h2
    refine ⟨[], f1, f2, rfl, fun S' H' z g w st k hz => ?_⟩
    simp only [List.set_cons_zero, List.nil_append]
    have h4' := envR.stb st e f2 r (fun a q => k a (by simpa using q)) h4
    cases z with
    | none =>
      subst hz
      unfold envR
      exact ⟨w, r, rfl, h4'⟩
    | some z =>
      obtain ⟨w', e1, e2⟩ := hz
      subst e1
      unfold envR
      exact ⟨w', r, g, f2, rfl, rfl, e2, h4'⟩
  | some y :: e, fp, σ, i + 1, h, e' => by
    unfold envR at h
    obtain ⟨v, r, f1, f2, h1, h2, h3, h4⟩ := h
    subst h1 h2
    obtain ⟨g1, g2, g3, q2, q4⟩ := envR.put (i := i) h4 (by simpa using e')
    subst q2
    refine ⟨f1 ++ g1, g2, g3, by simp, fun S' H' z g w st k hz => ?_⟩
    simp only [List.set_cons_succ]
    unfold envR
    refine ⟨v, _, f1, g1 ++ (g ++ g3), rfl, by simp, h3.stb st fun a q => k a (by simp [q]), q4 S' H' z g w st (fun a q => k a ?_) hz⟩
    simp only [List.mem_append] at q ⊢
    rcases q with q | q
    · exact .inl (.inr q)
    · exact .inr q
end

section
variable {X : Cx} {W : WX} {a b c : Expr} {pos : Pos} {m n : M Vl}

/-- a constant -/
theorem de_c {t : TE} {d : D} (h : PE X a t) (k : ∀ σ H Q, (∀ v, (∀ K S, rep K S H d v) → Q v H) → t σ H Q) : DE X W a (eC d) :=
  ⟨PEm h fun σ H Q ⟨S, e, fp, wd, p⟩ => k σ H Q fun v r => p S H fp [] v (Ext.refl S H fp) wd wd.sep ⟨rfl, r X.K S⟩⟩
theorem de_int {i : Int} {j : Nat} : DE X W (.Constant (.int i) j pos) (eC (.int i)) := de_c pe_int fun σ H Q k => k _ fun K S => by unfold rep; rfl
theorem de_bl {i : Bool} {j : Nat} : DE X W (.Constant (.bool i) j pos) (eC (.bl i)) := de_c pe_bl fun σ H Q k => k _ fun K S => by unfold rep; rfl
theorem de_non {j : Nat} : DE X W (.Constant .none j pos) (eC .non) := de_c pe_non fun σ H Q k => k _ fun K S => by unfold rep; rfl
theorem de_str {x : String} {j : Nat} : DE X W (.Constant (.str (Str.ofString x)) j pos) (eC (.str x)) := de_c pe_str fun σ H Q k => k _ fun K S => by unfold rep; rfl
/-- a module's constant -/
theorem de_glob {x : Str} {v : V} {u : Value} {d : D} (hg : Gl X x) (hm : X.mg x = some u) (r : RelV v u) (rd : ∀ S H, rep X.K S H d v) (hd : (x == ("__debug__" : Str)) = false := by decide) : DE X W (.Name x pos) (eC d) :=
  ⟨PEm (pe_glob hg hm r hd) fun σ H Q ⟨S, e, fp, wd, p⟩ => p S H fp [] v (Ext.refl S H fp) wd wd.sep ⟨rfl, rd S H⟩⟩

/-- a list of one's own is lent to reading for good -/
theorem Wd.freeze {K : PySem.W.Frag} {S : SP'} {H : Hp} {e : En} {fp f1 f2 f3 : List Addr} {σ : L2.St} (wd : Wd K S H e fp σ) (ef : fp = f1 ++ (f2 ++ f3)) (hl : ∀ a ∈ f2, ∃ xs, H a = some (.lst xs)) :
    Stb S H (fun a => S a ∨ a ∈ f2) H ∧ Ext S H fp (fun a => S a ∨ a ∈ f2) H (f1 ++ f3) ∧ Sep (fun a => S a ∨ a ∈ f2) H (f1 ++ f3) ∧ (∀ a, (S a ∨ a ∈ f2) → ∃ xs, H a = some (.lst xs)) := by
  subst ef
  have nd := wd.sep.nd
  rw [List.nodup_append] at nd
  obtain ⟨n1, n2, n3⟩ := nd
  rw [List.nodup_append] at n2
  obtain ⟨n4, n5, n6⟩ := n2
  refine ⟨⟨fun a h => .inl h, fun a o h _ => h⟩, ⟨fun a o h _ => h, fun a h => .inl ?_, fun a h => .inl h, fun a h => ?_⟩, ⟨?_, fun a h z => ?_, fun a h => wd.sep.ow a ?_⟩, fun a h => ?_⟩
  · simp only [List.mem_append] at h ⊢
    rcases h with h | h
    · exact .inl h
    · exact .inr (.inr h)
  · rcases h with h | h
    · exact .inl h
    · exact .inr (.inl (by simp [h]))
  · rw [List.nodup_append]
    exact ⟨n1, n5, fun a p b q => n3 a p b (List.mem_append_right _ q)⟩
  · rcases z with z | z
    · refine wd.sep.ns a ?_ z
      simp only [List.mem_append] at h ⊢
      rcases h with h | h
      · exact .inl h
      · exact .inr (.inr h)
    · rcases List.mem_append.mp h with h | h
      · exact n3 a h a (List.mem_append_left _ z) rfl
      · exact n6 a z a h rfl
  · simp only [List.mem_append] at h ⊢
    rcases h with h | h
    · exact .inl h
    · exact .inr (.inr h)
  · rcases h with h | h
    · exact wd.dom a h
    · exact hl a h
theorem rows.lists {K : PySem.W.Frag} {S : SP'} {H : Hp} : ∀ {ls : List (List D)} {as : List Addr} {vs : List V}, rows K S H ls as vs → ∀ a ∈ as, ∃ xs, H a = some (.lst xs)
  | [], _, _, h => by unfold rows at h; rw [h.1]; simp
  | l :: ls, _, _, h => by
    unfold rows at h
    obtain ⟨b, r, ws, rs, h1, h2, h3, h4, h5⟩ := h
    subst h1
    intro a q
    rcases List.mem_cons.mp q with q | q
    · subst q; exact ⟨_, h3⟩
    · exact h5.lists a q
theorem rows.froze {K : PySem.W.Frag} {S S' : SP'} {H : Hp} (st : Stb S H S' H) : ∀ {ls : List (List D)} {as : List Addr} {vs : List V}, rows K S H ls as vs → (∀ a ∈ as, S' a) → reps K S' H (ls.map .lst) vs
  | [], _, _, h, _ => by unfold rows at h; rw [h.2]; exact reps.nil
  | l :: ls, _, _, h, k => by
    unfold rows at h
    obtain ⟨b, r, ws, rs, h1, h2, h3, h4, h5⟩ := h
    subst h1 h2
    exact reps.cons (by unfold rep; exact ⟨b, ws, rfl, .inl ⟨k b (by simp), h3⟩, reps.stb st l ws h4⟩) (h5.froze st fun a q => k a (List.mem_cons_of_mem _ q))
theorem repV.lists {K : PySem.W.Frag} {S : SP'} {H : Hp} {x : Vl} {d : D} {fx : List Addr} {v : V} (e : x.d = some d) (h : repV K S H x fx v) : ∀ a ∈ fx, ∃ xs, H a = some (.lst xs) := by
  cases x with
  | v d => rw [h.1]; simp
  | o l =>
    obtain ⟨a, vs, h1, h2, h3, h4⟩ := h
    subst h2
    intro b q
    simp at q
    subst q
    exact ⟨_, h3⟩
  | oo l =>
    obtain ⟨a, vs, as, h1, h2, h3, h4⟩ := h
    subst h2
    intro b q
    rcases List.mem_cons.mp q with q | q
    · subst q; exact ⟨_, h3⟩
    · exact h4.lists b q
  | dc _ => simp [Vl.d] at e
  | rg _ _ => simp [Vl.d] at e
/-- .. read for good -/
theorem repV.froze {K : PySem.W.Frag} {S S' : SP'} {H : Hp} {x : Vl} {d : D} {fx : List Addr} {v : V} (st : Stb S H S' H) (e : x.d = some d) (h : repV K S H x fx v) (k : ∀ a ∈ fx, S' a) : rep K S' H d v := by
  cases x with
  | v d' =>
    simp only [Vl.d, Option.some.injEq] at e
    subst e
    exact rep.stb st _ v h.2
  | o l =>
    simp only [Vl.d, Option.some.injEq] at e
    subst e
    obtain ⟨a, vs, h1, h2, h3, h4⟩ := h
    subst h2
    unfold rep
    exact ⟨a, vs, h1, .inl ⟨k a (by simp), h3⟩, reps.stb st l vs h4⟩
  | oo l =>
    simp only [Vl.d, Option.some.injEq] at e
    subst e
    obtain ⟨a, vs, as, h1, h2, h3, h4⟩ := h
    subst h2
    unfold rep
    exact ⟨a, vs, h1, .inl ⟨k a (by simp), h3⟩, h4.froze st fun b q => k b (by simp [q])⟩
  | dc _ => simp [Vl.d] at e
  | rg _ _ => simp [Vl.d] at e
theorem set_same {α : Type} : ∀ {l : List α} {i : Nat} {x : α}, l[i]? = some x → l.set i x = l
  | [], _, _, h => by simp at h
  | a :: l, 0, x, h => by simp at h; subst h; rfl
  | a :: l, i + 1, x, h => by simp only [List.set_cons_succ]; rw [set_same (by simpa using h)]
theorem de_v (i : Nat) {x : Str} (hN : X.N[i]? = some x := by rfl) (hv : Vis X.env.scope x := by first | exact Or.inl rfl | exact Or.inr (Or.inl rfl) | exact Or.inr (Or.inr rfl)) (hd : (x == ("__debug__" : Str)) = false := by decide)
    (hcd : (x == ("__classdict__" : Str)) = false := by decide) : DE X W (.Name x pos) (eV i) := by
  refine ⟨PEm (pe_var hN hv hd hcd) fun σ H Q ⟨S, e, fp, wd, p⟩ => ?_⟩
  have key : ∀ (x : Vl) (d : D), e[i]? = some (some x) → x.d = some d → (∀ S' H' fp' fx v, Ext S H fp S' H' (fx ++ fp') → Wd X.K S' H' (e.set i (some (.v d))) fp' σ → Sep S' H' (fx ++ fp') → repV X.K S' H' (.v d) fx v → Q v H') → ∃ v, σ[i]? = some (some v) ∧ Q v H := fun x d he hx p => by
    obtain ⟨v, f1, f2, f3, q1, q2, q3, q4⟩ := wd.env.at he
    refine ⟨v, q1, ?_⟩
    obtain ⟨st, ext, sep, dom⟩ := wd.freeze q2 (q3.lists hx)
    have rd : rep X.K (fun a => S a ∨ a ∈ f2) H d v := q3.froze st hx fun a q => .inr q
    have env := q4 (fun a => S a ∨ a ∈ f2) H (some (.v d)) [] (some v) st (fun _ _ => rfl) ⟨v, rfl, rfl, rd⟩
    rw [set_same q1, List.nil_append] at env
    exact p _ H (f1 ++ f3) [] v ext ⟨env, sep, dom⟩ sep ⟨rfl, rd⟩
  unfold eV at p
  split at p
  · rename_i d he
    obtain ⟨v, q, r⟩ := key _ d he rfl (by rw [set_same he]; exact p)
    exact ⟨v, q, r⟩
  · rename_i l he
    exact key _ _ he rfl p
  · rename_i l he
    exact key _ _ he rfl p
  · exact p.elim
theorem RP_of_d {K : PySem.W.Frag} {S : SP'} {H : Hp} {x : Vl} {d : D} {fx : List Addr} {v : V} (e : x.d = some d) (f : x.flat = true) (h : repV K S H x fx v) : RP K S H (.v d) [] v := by
  cases x with
  | v d' =>
    simp only [Vl.d, Option.some.injEq] at e
    subst e
    have h1 := h.1
    subst h1
    exact h.rp
  | o l =>
    simp only [Vl.d, Option.some.injEq] at e
    subst e
    obtain ⟨a, vs, h1, h2, h3, h4⟩ := h
    exact ⟨rfl, a, vs, h1, .inl (.inl h3), h4⟩
  | oo l => simp [Vl.flat] at f
  | dc _ => simp [Vl.flat] at f
  | rg _ _ => simp [Vl.flat] at f
/-- a name that is only looked at -/
theorem dp_v (i : Nat) {x : Str} (hN : X.N[i]? = some x := by rfl) (hv : Vis X.env.scope x := by first | exact Or.inl rfl | exact Or.inr (Or.inl rfl) | exact Or.inr (Or.inr rfl)) (hd : (x == ("__debug__" : Str)) = false := by decide)
    (hcd : (x == ("__classdict__" : Str)) = false := by decide) : DP X W (.Name x pos) (eP i) := by
  refine ⟨PEm (pe_var hN hv hd hcd) fun σ H Q ⟨S, e, fp, wd, p⟩ => ?_⟩
  unfold eP at p
  split at p
  · rename_i x he
    obtain ⟨v, f1, f2, f3, q1, q2, q3, q4⟩ := wd.env.at he
    refine ⟨v, q1, ?_⟩
    split at p
    · rename_i hf
      cases hx : x.d with
      | none => simp [hx, lift, Rs.post] at p
      | some d =>
        simp only [hx, Option.map_some, lift, Rs.post] at p
        exact p S H fp [] v (Ext.refl S H fp) wd wd.sep (RP_of_d hx hf q3)
    · exact p.elim
  · exact p.elim

/-! ### tests -/
theorem dt_and1 {t : M Bool} (h : DT X W a t) : DT X W (.BoolOp .And [a] pos) t := ⟨(pw_and1 h.p).pt⟩
structure DW (X : Cx) (W : WX) (e : Expr) (m : M Bool) : Prop where
  p : PW X e (TR X.K X.mg W RB m)
theorem DW.dt {t : M Bool} (h : DW X W a t) : DT X W a t := ⟨h.p.pt⟩
theorem PWm {X : Cx} {e : Expr} {t t' : TT} (h : PW X e t) (k : ∀ σ H Q, t' σ H Q → t σ H Q) : PW X e t' := ⟨fun wh pins s σ H Q I q => h.run wh pins s σ H Q I (k σ H Q q)⟩
theorem dw_and1 {t : M Bool} (h : DT X W a t) : DW X W (.BoolOp .And [a] pos) t := ⟨pw_and1 h.p⟩
theorem dw_or1 {t : M Bool} (h : DT X W a t) : DW X W (.BoolOp .Or [a] pos) t := ⟨pw_or1 h.p⟩
theorem dw_and {t u : M Bool} {rest : List Expr} (ha : DT X W a t) (hb : DW X W (.BoolOp .And (b :: rest) pos) u) : DW X W (.BoolOp .And (a :: b :: rest) pos) (tAnd t u) := by
  refine ⟨PWm (pw_and ha.p hb.p) fun σ H Q h => ?_⟩
  refine TR.bind (k := fun c e => if c then u e else .ok false e) h fun S e fp S1 H1 e1 fp1 fx x v wd ext wd1 sep1 rx p => ?_
  obtain ⟨rfl, rfl⟩ := rx
  cases v with
  | false => exact p S1 H1 fp1 [] false ext wd1 sep1 ⟨rfl, rfl⟩
  | true =>
    refine TR.next (k := fun y e => .ok y e) (R' := RB) (Q := Q) wd1 ext sep1 ?_ fun S2 H2 e2 fp2 fy y w ext2 st keep wd2 sep2 ry p2 => ?_
    · cases q : u e1 <;> simp only [q] at p <;> exact p
    · obtain ⟨rfl, rfl⟩ := ry
      exact p2 S2 H2 fp2 [] _ ext2 wd2 sep2 ⟨rfl, rfl⟩
theorem dw_or {t u : M Bool} {rest : List Expr} (ha : DT X W a t) (hb : DW X W (.BoolOp .Or (b :: rest) pos) u) : DW X W (.BoolOp .Or (a :: b :: rest) pos) (tOr t u) := by
  refine ⟨PWm (pw_or ha.p hb.p) fun σ H Q h => ?_⟩
  refine TR.bind (k := fun c e => if c then .ok true e else u e) h fun S e fp S1 H1 e1 fp1 fx x v wd ext wd1 sep1 rx p => ?_
  obtain ⟨rfl, rfl⟩ := rx
  cases v with
  | true => exact p S1 H1 fp1 [] true ext wd1 sep1 ⟨rfl, rfl⟩
  | false =>
    refine TR.next (k := fun y e => .ok y e) (R' := RB) (Q := Q) wd1 ext sep1 ?_ fun S2 H2 e2 fp2 fy y w ext2 st keep wd2 sep2 ry p2 => ?_
    · cases q : u e1 <;> simp only [q] at p <;> exact p
    · obtain ⟨rfl, rfl⟩ := ry
      exact p2 S2 H2 fp2 [] _ ext2 wd2 sep2 ⟨rfl, rfl⟩
theorem dt_not {t : M Bool} (h : DT X W a t) : DT X W (.UnaryOp .Not a pos) (tNot t) := by
  refine ⟨PTm (pt_not h.p) fun σ H Q h => ?_⟩
  refine TR.bind (k := fun c e => .ok (!c) e) h fun S e fp S1 H1 e1 fp1 fx x v wd ext wd1 sep1 rx p => ?_
  obtain ⟨rfl, rfl⟩ := rx
  exact p S1 H1 fp1 [] _ ext wd1 sep1 ⟨rfl, rfl⟩
theorem ok_bool {K : PySem.W.Frag} {S : SP'} {H : Hp} {x : Vl} {c : Bool} {fx : List Addr} {v : V} (e : x.bool = some c) (r : repV K S H x fx v) : v = .bl c ∧ fx = [] := by
  unfold Vl.bool at e
  split at e
  · cases e
    have := r.2
    unfold rep at this
    exact ⟨this, r.1⟩
  · cases e
theorem tb_tr {σ : L2.St} {H : Hp} {Q : Bool → Hp → Prop} (h : TR X.K X.mg W RB (Fx.tB m) σ H Q) : L2.tB (TR X.K X.mg W (repV X.K) m) σ H Q := by
  refine TR.bind (k := fun x e => lift x.bool e) h fun S e fp S1 H1 e1 fp1 fx x v wd ext wd1 sep1 rx p => ?_
  cases q : x.bool with
  | none => rw [q] at p; exact p.elim
  | some c =>
    rw [q] at p
    obtain ⟨rfl, rfl⟩ := ok_bool q rx
    exact ⟨c, rfl, p S1 H1 fp1 [] c ext wd1 sep1 ⟨rfl, rfl⟩⟩
/-- a value that is a bool, as a test -/
theorem dt_b (h : DE X W a m) (he : ∀ whole, isTrue a X.env whole = (do let v ← whole; standAt a.pos; holding [v] (truthy v)) := by intro _; rfl) : DT X W a (Fx.tB m) := ⟨PTm (pt_val h.p he) fun σ H Q => tb_tr⟩
theorem len_emp {α β : Type} {l : List α} {m : List β} (h : l.length = m.length) : (!l.isEmpty) = !m.isEmpty := by
  cases l <;> cases m <;> simp_all
theorem ok_truth {K : PySem.W.Frag} {S : SP'} {H : Hp} {x : Vl} {c : Bool} {fx : List Addr} {v : V} (e : x.truth = some c) (r : RP K S H x fx v) : TruV K v H c := by
  unfold Vl.truth at e
  split at e <;> simp only [Option.some.injEq, reduceCtorEq] at e
  · subst e; have := r.2; unfold rep at this; subst this; rfl
  · subst e; have := r.2; unfold rep at this; subst this; rfl
  · subst e; have := r.2; unfold rep at this; subst this
    unfold TruV
    rename_i i
    by_cases hi : i = 0
    · subst hi; rfl
    · simp [hi, bne]
  · subst e
    have := r.2
    unfold rep at this
    obtain ⟨a, vs, h1, h2, h3⟩ := this
    subst h1
    exact .inr (.inl ⟨vs, h2.sq, len_emp h3.length⟩)
  · subst e
    obtain ⟨_, a, vs, h1, h2, h3⟩ := r
    subst h1
    exact .inl ⟨vs, h2, len_emp h3.length⟩
  · subst e
    obtain ⟨a, vs, h1, _, h2, h3⟩ := r
    subst h1
    exact .inl ⟨vs, .inl (.inl h2), len_emp h3.length⟩
/-- any value's truth, but a text's -/
theorem dt_t (h : DP X W a m) (he : ∀ whole, isTrue a X.env whole = (do let v ← whole; standAt a.pos; holding [v] (truthy v)) := by intro _; rfl) : DT X W a (tT m) := by
  refine ⟨PTm (pt_truth h.p he) fun σ H Q h => ?_⟩
  refine TR.bind (k := fun x e => lift x.truth e) h fun S e fp S1 H1 e1 fp1 fx x v wd ext wd1 sep1 rx p => ?_
  cases q : x.truth with
  | none => rw [q] at p; exact p.elim
  | some c =>
    rw [q] at p
    refine ⟨c, ok_truth q rx, p S1 H1 fp1 [] c ext.drop wd1 wd1.sep ⟨rfl, rfl⟩⟩
/-- a comparison, as a value, as a test -/
theorem de_cmp {op : CmpOp} {f : Vl → Vl → Option Vl} {r : R2} (ho : OpR X (compareOp op) r) (ok : Op2 X.K (repV X.K) (repV X.K) f r) (ha : DE X W a m) (hb : DE X W b n) (hm : behindInMarks op b = false := by first | exact nobehind _ (by decide) (by decide) | rfl) :
    DE X W (.Compare a [op] [b] pos) (e2 f m n) := ⟨PEm (pe_cmpR ho ha.p hb.p hm) fun σ H Q h => op2_tr ok (wt_rep _) h⟩
theorem wt_RP (K : PySem.W.Frag) : ∀ S H S1 H1 x v, Stb S H S1 H1 → repV K S H (.v x) [] v → RP K S1 H1 (.v x) [] v := fun S H S1 H1 x v st h => (h.stb st fun _ q => absurd q (by simp)).rp
/-- the second operand is only looked at -/
theorem Op2.pp {K : PySem.W.Frag} {f : Vl → Vl → Option Vl} {r : R2} (ok : Op2 K (RP K) (RP K) f r) : Op2 K (repV K) (RP K) f r := fun S H x y z fx fy u v Q e d s rx ry h => ok S H x y z fx fy u v Q e d s rx.rp ry h
theorem Op2.vv {K : PySem.W.Frag} {f : Vl → Vl → Option Vl} {r : R2} (ok : Op2 K (RP K) (RP K) f r) : Op2 K (repV K) (repV K) f r := fun S H x y z fx fy u v Q e d s rx ry h => ok S H x y z fx fy u v Q e d s rx.rp ry.rp h
theorem de_cmpP {op : CmpOp} {f : Vl → Vl → Option Vl} {r : R2} (ho : OpR X (compareOp op) r) (ok : Op2 X.K (RP X.K) (RP X.K) f r) (ha : DE X W a m) (hb : DP X W b n) (hm : behindInMarks op b = false := by first | exact nobehind _ (by decide) (by decide) | rfl) :
    DE X W (.Compare a [op] [b] pos) (e2 f m n) := ⟨PEm (pe_cmpR ho ha.p hb.p hm) fun σ H Q h => op2_tr ok.pp (wt_rep _) h⟩
theorem ttest {f : M Vl} {t : TE} (h : ∀ σ H Q, TR X.K X.mg W (repV X.K) f σ H Q → t σ H Q) {σ : L2.St} {H : Hp} {Q : Bool → Hp → Prop} (q : TR X.K X.mg W RB (Fx.tB f) σ H Q) : tTest t σ H Q := h σ H _ (tb_tr q)
theorem dt_cmp {op : CmpOp} {f : Vl → Vl → Option Vl} {r : R2} (ho : OpR X (compareOp op) r) (ok : Op2 X.K (repV X.K) (repV X.K) f r) (ha : DE X W a m) (hb : DE X W b n) (hm : behindInMarks op b = false := by first | exact nobehind _ (by decide) (by decide) | rfl) :
    DT X W (.Compare a [op] [b] pos) (Fx.tB (e2 f m n)) := ⟨PTm (pt_cmpR ho ha.p hb.p hm) fun σ H Q q => ttest (fun σ H Q h => op2_tr ok (wt_rep _) h) q⟩
theorem dt_cmpP {op : CmpOp} {f : Vl → Vl → Option Vl} {r : R2} (ho : OpR X (compareOp op) r) (ok : Op2 X.K (RP X.K) (RP X.K) f r) (ha : DE X W a m) (hb : DP X W b n) (hm : behindInMarks op b = false := by first | exact nobehind _ (by decide) (by decide) | rfl) :
    DT X W (.Compare a [op] [b] pos) (Fx.tB (e2 f m n)) := ⟨PTm (pt_cmpR ho ha.p hb.p hm) fun σ H Q q => ttest (fun σ H Q h => op2_tr ok.pp (wt_rep _) h) q⟩
end
end Fx
end

section
set_option Elab.async false
set_option linter.all false
set_option maxRecDepth 100000
set_option maxHeartbeats 4000000
/-! Wu: tuples that are made, known to the object. -/
namespace Fx
open PySem PySem.Spec PyProof.Rows L2
def mkT (its : List Value) : Obj := { cls := .type "tuple", data := .seq its.toArray }
theorem tnew {X : Cx} {pins : List (Addr × Obj)} {σ : L2.St} {H : Hp} {s : Shared} {its : List Value} {ys : List V} {t' : Nat} (I : Inv X pins σ H s) (hv : Vals ys its) (hz : ys.length ≤ sizeLine) :
    Inv X pins σ (upd H s.heap.objs.size (.frz (mkT its) (.tup ys))) { s with heap := s.heap.push (mkT its), toks := t' } :=
  I.laid (fun _ _ q => Heap.get?_push_of_some _ q) (Nat.le_refl _) ⟨Heap.get?_push_size _ rfl, hz, its, hv, ⟨_, Heap.get?_push_size _ rfl, rfl, _, rfl⟩⟩
/-- a new tuple -/
def newT (H : Hp) (Q : VK) (ys : List V) : Prop := ∀ p ob, H p = none → ob.dict = none → Q (.ref p) (upd H p (.frz ob (.tup ys)))
theorem newT.fin {X : Cx} {pins : List (Addr × Obj)} {σ : L2.St} {H : Hp} {s : Shared} {its : List Value} {ys : List V} {t' : Nat} {Q : VK} (q : newT H Q ys) (I : Inv X pins σ H s) (hv : Vals ys its) (hz : ys.length ≤ sizeLine) :
    EP X pins σ Q (.ref s.heap.objs.size) { s with heap := s.heap.push (mkT its), toks := t' } := ⟨.ref _, _, tnew I hv hz, rfl, q _ _ I.fresh rfl⟩
section
variable {X : Cx}
def tTupF (t : TA) : TE := fun σ H Q => t σ H fun xs H1 => xs.length ≤ sizeLine ∧ newT H1 Q xs
theorem pe_tupF {es : List Expr} {t : TA} {x1 : Nat} {pos : Pos} (h : PA X es t) : PE X (.Tuple es x1 pos) (tTupF t) :=
  ⟨fun pins s σ H Q I hq => wpAny_Tuple_spliced (thn (h.run pos pins s σ H _ I hq) fun us s1 ⟨xs, H1, I1, r, z, q⟩ => ⟨by rw [← r.length]; exact z, q.fin (t' := s1.toks) I1 r z⟩)⟩
theorem call_tupleF : CallR X (.type "tuple") (fun xs H Q => ∃ p ys, xs = [.ref p] ∧ ((SqL X.K H p ys ∧ newT H Q ys) ∨ (SqT X.K H p ys ∧ Q (.ref p) H))) := by
  intro pins s σ H xs us Q I rr hh
  obtain ⟨p, ys, rfl, hh⟩ := hh
  obtain ⟨u, rfl, rx⟩ := vals1 rr
  cases rx
  rcases hh with ⟨hq, q⟩ | ⟨hq, q⟩
  · obtain ⟨its, r1, pl, hz⟩ := I.list hq
    have hl := r1.length
    exact call_tuple_list pl.isList (fun h' kp => q.fin (t' := s.toks) (I.kept (t' := s.toks) kp) r1 hz) (by simp only [List.size_toArray] <;> omega)
  · obtain ⟨its, _, pl, _⟩ := I.tuple hq
    exact call_tuple_same pl ⟨.ref p, H, I, rfl, q⟩
/-- t + u -/
def rCatF (K : PySem.W.Frag) : R2 := fun x y H Q => ∃ a b xs ys, x = .ref a ∧ y = .ref b ∧ SqT K H a xs ∧ SqT K H b ys ∧ xs.length + ys.length ≤ sizeLine ∧
  (xs = [] → Q (.ref b) H) ∧ (xs ≠ [] → ys = [] → Q (.ref a) H) ∧ (xs ≠ [] → ys ≠ [] → newT H Q (xs ++ ys))
theorem op_catF : OpR X (binaryOp .Add) (rCatF X.K) := by
  intro pins s σ H x y v u Q I rx ry hh
  obtain ⟨a, b, xs, ys, rfl, rfl, ha, hb, hz, q0, q1, q2⟩ := hh
  by_cases hx : xs = []
  · exact op_catA pins s σ H _ _ v u Q I rx ry ⟨a, b, xs, ys, rfl, rfl, ha, hb, hz, q0, q1, fun z => absurd hx z⟩
  · cases rx
    cases ry
    obtain ⟨i1, r1, p1, _⟩ := I.tuple ha
    obtain ⟨i2, r2, p2, _⟩ := I.tuple hb
    refine HT.cat_tup p1 p2 (fun z => hx (r1.nil_iff.mp z)) (fun z => ⟨.ref a, H, I, rfl, q1 hx (r2.nil_iff.mp z)⟩) (fun z => ?_) (by rw [← r1.length, ← r2.length]; exact hz)
    exact (q2 hx fun w => z (r2.nil_iff.mpr w)).fin (t' := s.toks) I (r1.append r2) (by rw [List.length_append]; exact hz)
/-- t[lo:hi] -/
def rSlF (K : PySem.W.Frag) : V → Option Int → Option Int → Hp → VK → Prop := fun x lo hi H Q => ∃ a xs, x = .ref a ∧ SqT K H a xs ∧
  (HT.sIx xs.length 0 lo = 0 ∧ HT.sIx xs.length xs.length hi = xs.length → Q (.ref a) H) ∧ (¬ (HT.sIx xs.length 0 lo = 0 ∧ HT.sIx xs.length xs.length hi = xs.length) → newT H Q (cutV xs lo hi))
theorem sl_tupF : SlR X (rSlF X.K) := by
  intro pins s σ H x v vl vu lo hi sl Q I rx hs pl pu hh
  obtain ⟨a, xs, rfl, hx, q1, q2⟩ := hh
  by_cases hw : HT.sIx xs.length 0 lo = 0 ∧ HT.sIx xs.length xs.length hi = xs.length
  · exact sl_tupA pins s σ H _ v vl vu lo hi sl Q I rx hs pl pu ⟨a, xs, rfl, hx, q1, fun z => absurd hw z⟩
  · cases rx
    obtain ⟨its, r, ht, hz⟩ := I.tuple hx
    have hn : its.toArray.size = xs.length := by rw [List.size_toArray]; exact r.length.symm
    refine ⟨"tuple", _, PyProof.Rows.slot_tuple_getitem.lookup, ht.typeIs, HT.getItem_tuple_cut ht hs pl pu (by rw [hn]; exact hw) ?_ (by rw [hn]; exact hz)⟩
    rw [hn]
    exact (q2 hw).fin (t' := s.toks) I ((r.drop _).take _) (Nat.le_trans (cutV_length xs lo hi) hz)
end
end Fx
end

section
set_option Elab.async false
set_option linter.all false
set_option maxRecDepth 100000
set_option maxHeartbeats 4000000
/-! We: displays, sums, places, built-ins. -/
namespace Fx
open PySem PySem.Spec PyProof.Rows L2

section
variable {X : Cx} {W : WX} {a b c : Expr} {pos : Pos} {m n : M Vl}
/-- a waiting value is read for good -/
theorem froze_wait {K : PySem.W.Frag} {S S1 : SP'} {H H1 : Hp} {fp fp1 fx : List Addr} {e1 : En} {σ : L2.St} {x : Vl} {d : D} {v : V} (ext : Ext S H fp S1 H1 (fx ++ fp1)) (wd : Wd K S1 H1 e1 fp1 σ) (sep : Sep S1 H1 (fx ++ fp1)) (e : x.d = some d) (r : repV K S1 H1 x fx v) :
    Ext S H fp (fun a => S1 a ∨ a ∈ fx) H1 fp1 ∧ Wd K (fun a => S1 a ∨ a ∈ fx) H1 e1 fp1 σ ∧ rep K (fun a => S1 a ∨ a ∈ fx) H1 d v := by
  have st : Stb S1 H1 (fun a => S1 a ∨ a ∈ fx) H1 := ⟨fun a h => .inl h, fun a o h _ => h⟩
  refine ⟨⟨ext.keep, fun a q => ext.fresh a (List.mem_append_right _ q), fun a h => .inl (ext.mono a h), fun a h => ?_⟩, ⟨envR.stb st _ _ _ (fun _ _ => rfl) wd.env, ⟨wd.sep.nd, fun a q z => ?_, wd.sep.ow⟩, fun a h => ?_⟩, r.froze st e fun a q => .inr q⟩
  · rcases h with h | h
    · exact ext.sfr a h
    · exact .inr (ext.fresh a (List.mem_append_left _ h))
  · rcases z with z | z
    · exact wd.sep.ns a q z
    · exact sep.apart z q
  · rcases h with h | h
    · exact wd.dom a h
    · exact r.lists e a h
theorem da_nil : DA X W [] eNil := ⟨PAm pa_nil fun σ H Q ⟨S, e, fp, wd, p⟩ => p S H fp [] [] (Ext.refl S H fp) wd wd.sep ⟨rfl, reps.nil⟩⟩
theorem da_cons {es : List Expr} {r : M (List D)} (ha : DE X W a m) (hr : DA X W es r) (hs : starEach (a :: es) X.env = (false, eval a X.env) :: starEach es X.env := by rfl) : DA X W (a :: es) (eCons m r) := by
  refine ⟨PAm (pa_cons ha.p hr.p hs) fun σ H Q h => ?_⟩
  refine TR.bind (k := fun x e => match x.d with | some d => (r e).then fun ds e => .ok (d :: ds) e | none => .bad) h fun S e fp S1 H1 e1 fp1 fx x v wd ext wd1 sep1 rx p => ?_
  cases hx : x.d with
  | none => simp only [hx] at p; exact p.elim
  | some d =>
    simp only [hx] at p
    obtain ⟨ext1, wd1', rd⟩ := froze_wait ext wd1 sep1 hx rx
    refine TR.next (fx := []) (k := fun ds e => .ok (d :: ds) e) wd1' ext1 wd1'.sep p fun S2 H2 e2 fp2 fy ds vs ext2 st keep wd2 sep2 ry p2 => ?_
    obtain ⟨rfl, ry⟩ := ry
    exact p2 S2 H2 fp2 [] _ ext2 wd2 sep2 ⟨rfl, reps.cons (rep.stb st d v rd) ry⟩
theorem lim_eq : lim = sizeLine := by rw [sizeLine_eq]; rfl
theorem fresh_tup {K : PySem.W.Frag} {S : SP'} {H : Hp} {ds : List D} {vs : List V} {p : Addr} {ob : Obj} (r : reps K S H ds vs) (hp : H p = none) (ho : ob.dict = none) :
    (∀ a o, H a = some o → upd H p (.frz ob (.tup vs)) a = some o) ∧ rep K S (upd H p (.frz ob (.tup vs))) (.tup ds) (.ref p) := by
  have k : ∀ a o, H a = some o → upd H p (.frz ob (.tup vs)) a = some o := fun a o h => by rw [upd_ne (ne_of_none h hp)]; exact h
  refine ⟨k, ?_⟩
  unfold rep
  exact ⟨p, vs, rfl, ⟨ob, upd_same, ho⟩, reps.stb (Stb.grow k) ds vs r⟩
theorem fresh_lst {K : PySem.W.Frag} {S : SP'} {H : Hp} {ds : List D} {vs : List V} {p : Addr} (r : reps K S H ds vs) (hp : H p = none) (dom : ∀ a, S a → ∃ xs, H a = some (.lst xs)) :
    (∀ a o, H a = some o → upd H p (.lst vs) a = some o) ∧ (∀ a ∈ [p], H a = none) ∧ Sep S (upd H p (.lst vs)) [p] ∧ repV K S (upd H p (.lst vs)) (.o ds) [p] (.ref p) := by
  have k : ∀ a o, H a = some o → upd H p (.lst vs) a = some o := fun a o h => by rw [upd_ne (ne_of_none h hp)]; exact h
  refine ⟨k, fun a q => ?_, ⟨by simp, fun a q z => ?_, fun a q => ?_⟩, p, vs, rfl, rfl, upd_same, reps.stb (Stb.grow k) ds vs r⟩
  · simp at q; subst q; exact hp
  · simp at q; subst q
    obtain ⟨xs, e⟩ := dom a z
    rw [hp] at e; cases e
  · simp at q; subst q; exact ⟨_, upd_same, trivial⟩
theorem de_tup {es : List Expr} {r : M (List D)} {k : Nat} (h : DA X W es r) (hz : es.length ≤ 1000 := by decide) (hl : ∀ e ds e', r e = .ok ds e' → ds.length ≤ es.length := by assumption) : DE X W (.Tuple es k pos) (eTup r) := by
  refine ⟨PEm (pe_tupF h.p) fun σ H Q h => ?_⟩
  obtain ⟨S, e, fp, wd, p⟩ := h
  refine ⟨S, e, fp, wd, ?_⟩
  unfold eTup at p
  cases q : r e with
  | ok ds e' =>
    simp only [q, Rs.then] at p
    intro S' H' fp' fx vs ext wd' sep rl
    obtain ⟨rfl, rl⟩ := rl
    refine ⟨?_, fun pp ob hp ho => ?_⟩
    · have := hl e ds e' q
      rw [← rl.length]
      rw [sizeLine_eq]
      omega
    · obtain ⟨k, rt⟩ := fresh_tup rl hp ho
      exact p S' _ fp' [] _ (ext.grow k (fun a q => absurd q (by simp))) (wd'.grow k) (wd'.grow k).sep ⟨rfl, rt⟩
  | ex x e' => simp only [q, Rs.then] at p; exact p
  | bad => simp only [q, Rs.then] at p; exact p
theorem nil_len : ∀ e ds e', eNil e = .ok ds e' → ds.length ≤ ([] : List Expr).length := fun e ds e' h => by cases h; exact Nat.le_refl _
theorem cons_len {r : M (List D)} {es : List Expr} (h : ∀ e ds e', r e = .ok ds e' → ds.length ≤ es.length) : ∀ e ds e', eCons m r e = .ok ds e' → ds.length ≤ (a :: es).length := fun e ds e' q => by
  unfold eCons at q
  cases q1 : m e with
  | ok x e1 =>
    simp only [q1, Rs.then] at q
    cases hx : x.d with
    | none => simp [hx] at q
    | some d =>
      simp only [hx] at q
      cases q2 : r e1 with
      | ok ds' e2 =>
        simp only [q2] at q
        cases q
        have := h _ _ _ q2
        simp only [List.length_cons]
        omega
      | ex x e2 => simp [q2] at q
      | bad => simp [q2] at q
  | ex x e1 => simp [q1, Rs.then] at q
  | bad => simp [q1, Rs.then] at q
/-- a list of arguments with its length -/
structure DAn (X : Cx) (W : WX) (es : List Expr) (r : M (List D)) : Prop where
  d : DA X W es r
  n : ∀ e ds e', r e = .ok ds e' → ds.length ≤ es.length
theorem dn_nil : DAn X W [] eNil := ⟨da_nil, nil_len⟩
theorem dn_cons {es : List Expr} {r : M (List D)} (ha : DE X W a m) (hr : DAn X W es r) (hs : starEach (a :: es) X.env = (false, eval a X.env) :: starEach es X.env := by rfl) : DAn X W (a :: es) (eCons m r) := ⟨da_cons ha hr.d hs, cons_len hr.n⟩
theorem de_tupn {es : List Expr} {r : M (List D)} {k : Nat} (h : DAn X W es r) (hz : es.length ≤ 1000 := by decide) : DE X W (.Tuple es k pos) (eTup r) := de_tup h.d hz h.n
theorem de_lst {es : List Expr} {r : M (List D)} (h : DAn X W es r) (hz : es.length ≤ 1000 := by decide) : DE X W (.List es pos) (eLst r) := by
  refine ⟨PEm (pe_lst h.d.p) fun σ H Q q => ?_⟩
  obtain ⟨S, e, fp, wd, p⟩ := q
  refine ⟨S, e, fp, wd, ?_⟩
  unfold eLst at p
  cases q : r e with
  | ok ds e' =>
    simp only [q, Rs.then] at p
    intro S' H' fp' fx vs ext wd' sep rl
    obtain ⟨rfl, rl⟩ := rl
    refine ⟨?_, fun pp hp => ?_⟩
    · have := h.n e ds e' q
      rw [← rl.length]
      rw [sizeLine_eq]
      omega
    · obtain ⟨k, fr, sp, rt⟩ := fresh_lst rl hp wd'.dom
      exact p S' _ fp' [pp] _ (ext.grow k fr) (wd'.grow k) (wd'.sep.grow sp k fr) rt
  | ex x e' => simp only [q, Rs.then] at p; exact p
  | bad => simp only [q, Rs.then] at p; exact p

/-! ### a if t else b; and, or, not as values -/
theorem tail_tr {α β : Type} {R : SP' → Hp → α → List Addr → β → Prop} {K : PySem.W.Frag} {mg : Str → Option Value} {S S1 : SP'} {H H1 : Hp} {fp fp1 : List Addr} {e1 : En} {σ : L2.St} {m : M α} {Q : β → Hp → Prop} (wd1 : Wd K S1 H1 e1 fp1 σ) (ext : Ext S H fp S1 H1 fp1)
    (p : (m e1).post (fun y e' => ∀ S' H' fp' fy u, Ext S H fp S' H' (fy ++ fp') → Wd K S' H' e' fp' σ → Sep S' H' (fy ++ fp') → R S' H' y fy u → Q u H') (fun x e' => exW K mg W S H fp σ x e')) : TR K mg W R m σ H1 Q := by
  refine ⟨S1, e1, fp1, wd1, ?_⟩
  cases q : m e1 with
  | ok x e' =>
    rw [q] at p
    exact fun S' H' fp' fy v a b c d => p S' H' fp' fy v (ext.trans a) b c d
  | ex x e' => rw [q] at p; exact p.more ext
  | bad => rw [q] at p; exact p
theorem de_if {t : M Bool} (ht : DT X W c t) (ha : DE X W a m) (hb : DE X W b n) : DE X W (.IfExp c a b pos) (eIf t m n) := by
  refine ⟨PEm (pe_ifExp ht.p ha.p hb.p) fun σ H Q h => ?_⟩
  refine TR.bind (k := fun c e => if c then m e else n e) h fun S e fp S1 H1 e1 fp1 fx x v wd ext wd1 sep1 rx p => ?_
  obtain ⟨rfl, rfl⟩ := rx
  cases v with
  | true => exact tail_tr (m := m) wd1 ext p
  | false => exact tail_tr (m := n) wd1 ext p
end
section
variable {X : Cx} {W : WX} {a b c : Expr} {pos : Pos} {m n : M Vl} {rest : List Expr}
theorem de_one {op : BoolOp} (h : DE X W a m) : DE X W (.BoolOp op [a] pos) m := ⟨pe_one h.p⟩
theorem de_and (ha : DE X W a m) (hb : DE X W (.BoolOp .And (b :: rest) pos) n) : DE X W (.BoolOp .And (a :: b :: rest) pos) (eAnd m n) := by
  refine ⟨PEm (pe_and ha.p hb.p) fun σ H Q h => ?_⟩
  refine TR.bind (k := fun x e => match x.bool with | some true => n e | some false => .ok (.v (.bl false)) e | none => .bad) h fun S e fp S1 H1 e1 fp1 fx x v wd ext wd1 sep1 rx p => ?_
  cases hx : x.bool with
  | none => simp only [hx] at p; exact p.elim
  | some k =>
    obtain ⟨rfl, rfl⟩ := ok_bool hx rx
    refine ⟨k, rfl, ?_⟩
    cases k with
    | true => simp only [hx] at p; exact tail_tr (m := n) wd1 ext p
    | false => simp only [hx] at p; exact p S1 H1 fp1 [] _ ext wd1 sep1 ⟨rfl, rep_bl _⟩
theorem de_or (ha : DE X W a m) (hb : DE X W (.BoolOp .Or (b :: rest) pos) n) : DE X W (.BoolOp .Or (a :: b :: rest) pos) (eOr m n) := by
  refine ⟨PEm (pe_or ha.p hb.p) fun σ H Q h => ?_⟩
  refine TR.bind (k := fun x e => match x.bool with | some true => .ok (.v (.bl true)) e | some false => n e | none => .bad) h fun S e fp S1 H1 e1 fp1 fx x v wd ext wd1 sep1 rx p => ?_
  cases hx : x.bool with
  | none => simp only [hx] at p; exact p.elim
  | some k =>
    obtain ⟨rfl, rfl⟩ := ok_bool hx rx
    refine ⟨k, rfl, ?_⟩
    cases k with
    | false => simp only [hx] at p; exact tail_tr (m := n) wd1 ext p
    | true => simp only [hx] at p; exact p S1 H1 fp1 [] _ ext wd1 sep1 ⟨rfl, rep_bl _⟩
theorem de_not (ha : DE X W a m) : DE X W (.UnaryOp .Not a pos) (e1 oNot m) := by
  refine ⟨PEm (pe_not ha.p) fun σ H Q h => ?_⟩
  refine TR.bind (k := fun x e => lift (oNot x) e) h fun S e fp S1 H1 e1 fp1 fx x v wd ext wd1 sep1 rx p => ?_
  unfold oNot at p
  cases hx : x.bool with
  | none => simp only [hx] at p; exact p.elim
  | some k =>
    simp only [hx, Option.map_some, lift] at p
    obtain ⟨rfl, rfl⟩ := ok_bool hx rx
    exact ⟨k, rfl, p S1 H1 fp1 [] _ ext wd1 sep1 ⟨rfl, rep_bl _⟩⟩

/-! ### + and * -/
theorem Inv.rdl {pins : List (Addr × Obj)} {σ : L2.St} {H : Hp} {s : Shared} {l : Addr} {xs : List V} (I : Inv X pins σ H s) (hH : SqL X.K H l xs) : xs.length ≤ sizeLine ∧ ∃ (its : List Value) (n : Nat) (dd : Option Addr) (sl : Array (Option Value)), Vals xs its ∧ xs.length = its.length ∧ s.heap.get? l = some { cls := .type "list", dict := dd, data := .seq its.toArray n, slots := sl } := by
  obtain ⟨its, r, ⟨⟨cls, dd, data, sl⟩, n, e, hc, hd, hs⟩, z⟩ := I.list hH
  simp only at hc hs
  subst hc hs
  exact ⟨z, its, n, dd, sl, r, r.length, e⟩
def rCatL (K : PySem.W.Frag) : R2 := fun x y H Q => ∃ l b xs zs, x = .ref l ∧ y = .ref b ∧ SqL K H l xs ∧ SqL K H b zs ∧ xs.length + zs.length ≤ sizeLine ∧ ∀ p, H p = none → Q (.ref p) (upd H p (.lst (xs ++ zs)))
theorem op_catL : OpR X (binaryOp .Add) (rCatL X.K) := by
  intro pins s σ H x y v u Q I rx ry h
  obtain ⟨l, b, xs, zs, rfl, rfl, hH, hB, hz, q⟩ := h
  cases rx
  cases ry
  obtain ⟨z, its, n, dd, sl, r, hl, e⟩ := Inv.rdl I hH
  obtain ⟨z2, its2, n2, dd2, sl2, r2, hl2, e2⟩ := Inv.rdl I hB
  have hsz : its.toArray.size + its2.toArray.size ≤ sizeLine := by rw [List.size_toArray, List.size_toArray]; omega
  suffices hx : EP X pins σ Q (.ref s.heap.objs.size) { s with heap := s.heap.push { cls := .type "list", data := .seq (its.toArray ++ its2.toArray) } } from
    concat_meets ⟨_, e, rfl⟩ ⟨_, e2, rfl⟩ noFill_list_add seq_list_add PySem.F.slot_list_add PySem.F.entry_list_add (PySem.F.args_list_add_2 _ _) (list_addW l b its.toArray its2.toArray n n2 dd dd2 sl sl2 hsz) ⟨e, e2, hx⟩
  have ea : its.toArray ++ its2.toArray = (its ++ its2).toArray := by simp
  rw [ea]
  exact ⟨.ref _, _, I.lnew (t' := s.toks) (r.append r2) (by rw [List.length_append]; omega), rfl, q _ I.fresh⟩
theorem RP.rdl {K : PySem.W.Frag} {S : SP'} {H : Hp} {x : Vl} {l : List D} {fx : List Addr} {v : V} (e : x = .v (.lst l) ∨ x = .o l) (h : RP K S H x fx v) : ∃ a vs, v = .ref a ∧ SqL K H a vs ∧ reps K S H l vs := by
  rcases e with rfl | rfl
  · obtain ⟨_, a, vs, h1, h2, h3⟩ := h
    exact ⟨a, vs, h1, h2, h3⟩
  · obtain ⟨a, vs, h1, _, h2, h3⟩ := h
    exact ⟨a, vs, h1, .inl (.inl h2), h3⟩
def rAdd' (K : PySem.W.Frag) : R2 := fun x y H Q => (rI0 (fun i j => .int (i + j)) x y H Q ∨ rCatF K x y H Q) ∨ rCatL K x y H Q
theorem op_add' : OpR X (binaryOp .Add) (rAdd' X.K) := (op_add.or op_catF).or op_catL
theorem ok_cat {K : PySem.W.Frag} {S : SP'} {H : Hp} {x y : Vl} {l m : List D} {fx fy : List Addr} {u v : V} {Q : VK} (ex : x = .v (.lst l) ∨ x = .o l) (ey : y = .v (.lst m) ∨ y = .o m) (hz : l.length + m.length ≤ lim) (dom : ∀ a, S a → ∃ xs, H a = some (.lst xs)) (rx : RP K S H x fx u) (ry : RP K S H y fy v)
    (h : ∀ H' fz w, (∀ a o, H a = some o → H' a = some o) → (∀ a ∈ fz, H a = none) → Sep S H' fz → repV K S H' (.o (l ++ m)) fz w → Q w H') : rAdd' K u v H Q := by
  obtain ⟨a, vs, h1, h2, h3⟩ := rx.rdl ex
  obtain ⟨b, ws, h4, h5, h6⟩ := ry.rdl ey
  refine .inr ⟨a, b, vs, ws, h1, h4, h2, h5, by rw [← h3.length, ← h6.length, ← lim_eq]; exact hz, fun p hp => ?_⟩
  obtain ⟨k, fr, sp, rt⟩ := fresh_lst (h3.app h6) hp dom
  exact h _ [p] _ k fr sp rt
theorem ok_add {K : PySem.W.Frag} : Op2 K (RP K) (RP K) oAdd (rAdd' K) := by
  intro S H x y z fx fy u v Q e dom sep rx ry h
  unfold oAdd at e
  split at e
  · cases e
    have h1 := rx.2; have h2 := ry.2
    unfold rep at h1 h2
    exact .inl (.inl ⟨_, _, h1, h2, pure_end (rep_int _) h⟩)
  · rename_i l m
    split at e
    · rename_i hz
      cases e
      have h1 : rep K S H (.tup l) u := rx.2
      have h2 : rep K S H (.tup m) v := ry.2
      have h1' := h1; have h2' := h2
      unfold rep at h1 h2
      obtain ⟨a, vs, e1, q1, r1⟩ := h1
      obtain ⟨b, ws, e2, q2, r2⟩ := h2
      subst e1 e2
      refine .inl (.inr ⟨a, b, vs, ws, rfl, rfl, q1.sq, q2.sq, by rw [← r1.length, ← r2.length, ← lim_eq]; exact hz, fun hv => ?_, fun hv hw => ?_, fun _ _ p ob hp ho => ?_⟩)
      · have : l = [] := List.eq_nil_of_length_eq_zero (by rw [r1.length, hv]; rfl)
        subst this
        exact pure_end h2' h
      · have : m = [] := List.eq_nil_of_length_eq_zero (by rw [r2.length, hw]; rfl)
        subst this
        exact pure_end (d := .tup (l ++ [])) (by rw [List.append_nil]; exact h1') h
      · obtain ⟨k, rt⟩ := fresh_tup (r1.app r2) hp ho
        exact h _ [] _ k (fun _ q => absurd q (by simp)) Sep.nil ⟨rfl, rt⟩
    · cases e
  all_goals first
    | (split at e
       · cases e
         rename_i hz
         exact ok_cat (by first | exact .inl rfl | exact .inr rfl) (by first | exact .inl rfl | exact .inr rfl) hz dom rx ry h
       · cases e)
    | cases e
theorem de_add (ha : DE X W a m) (hb : DE X W b n) : DE X W (.BinOp a .Add b pos) (e2 oAdd m n) := de_op op_add' (ok_add.vv) ha hb
theorem de_sub (ha : DE X W a m) (hb : DE X W b n) : DE X W (.BinOp a .Sub b pos) (e2 oSub m n) := de_op op_sub ok_sub ha hb
theorem de_mod (ha : DE X W a m) (hb : DE X W b n) : DE X W (.BinOp a .Mod b pos) (e2 oMod m n) := de_op op_mod ok_mod ha hb
theorem de_div (ha : DE X W a m) (hb : DE X W b n) : DE X W (.BinOp a .FloorDiv b pos) (e2 oDiv m n) := de_op op_fdivW ok_div ha hb
theorem de_pow (ha : DE X W a m) (hb : DE X W b n) : DE X W (.BinOp a .Pow b pos) (e2 oPow m n) := de_op op_pow ok_pow ha hb
end
end Fx
end

section
set_option Elab.async false
set_option linter.all false
set_option maxRecDepth 100000
set_option maxHeartbeats 4000000
/-! Wm: times. -/
namespace Fx
open PySem PySem.Spec PyProof.Rows L2
theorem tup_mul1 (l : Addr) (items : Array Value) (n : Nat) (dd : Option Addr) (sl : Array (Option Value)) (u : Tok) :
    Meets (Builtin.«tuple.__mul__» ⟨[.ref l, .int 1 u], []⟩) (fun _ R s => s.heap.get? l = some { cls := .type "tuple", dict := dd, data := .seq items n, slots := sl } ∧ R (.ok (.ret (.ref l))) s) :=
  .of_wp fun prog w A R s h => by
    obtain ⟨hp, g, d, tk, os⟩ := s
    obtain ⟨hl, h⟩ := h
    have f1 := AutoSeq1.idx_int
    wp_walk using wpAny_loadPart' hl
    repeat (first
      | (refine wpAny_ite_false (decide_eq_false (by decide)) ?_; wp_walk using wpAny_loadPart' hl)
      | (refine wpAny_ite_true (decide_eq_true (by simp)) ?_; wp_walk using wpAny_loadPart' hl))
    exact ⟨_, rfl, h⟩
theorem tup_mul0 (l : Addr) (items : Array Value) (n : Nat) (dd : Option Addr) (sl : Array (Option Value)) (u : Tok) (he : items.isEmpty = false) :
    Meets (Builtin.«tuple.__mul__» ⟨[.ref l, .int 0 u], []⟩) (fun _ R s => s.heap.get? l = some { cls := .type "tuple", dict := dd, data := .seq items n, slots := sl } ∧
      R (.ok (.ret (Value.ref s.heap.objs.size))) { s with heap := s.heap.push { cls := Value.type "tuple", data := Data.seq #[] }, toks := s.toks }) :=
  .of_wp fun prog w A R s h => by
    obtain ⟨hp, g, d, tk, os⟩ := s
    obtain ⟨hl, h⟩ := h
    have f1 := AutoSeq1.idx_int
    wp_walk using wpAny_loadPart' hl
    repeat (first
      | (refine wpAny_ite_false (decide_eq_false (by decide)) ?_; wp_walk using wpAny_loadPart' hl)
      | (refine wpAny_ite_false (decide_eq_false (by rw [he]; decide)) ?_; wp_walk using wpAny_loadPart' hl)
      | (refine wpAny_ite_true (decide_eq_true (by simp)) ?_; wp_walk using wpAny_loadPart' hl))
    exact ⟨_, rfl, h⟩

def rRepA (K : PySem.W.Frag) : R2 := fun x y H Q => ∃ l k xs, x = .ref l ∧ y = .int k ∧ SqT K H l xs ∧ xs ≠ [] ∧ 0 ≤ k ∧ k ≤ 1000 ∧ xs.length ≤ 1000 ∧ (k = 1 → Q (.ref l) H) ∧ (k ≠ 1 → newT H Q (List.replicate k.toNat xs).flatten)
section
variable {X : Cx} {W : WX} {a b : Expr} {pos : Pos} {m n : M Vl}
theorem op_repA : OpR X (binaryOp .Mult) (rRepA X.K) := by
  intro pins s σ H x y v u Q I rx ry h
  obtain ⟨l, k, xs, rfl, rfl, hT, hne, h0, h1, hz, q1, q2⟩ := h
  cases rx
  obtain ⟨t, rfl⟩ := ry
  obtain ⟨its, r, ⟨⟨cls, dd, data, sl⟩, ho, hc, n, hd⟩, hs⟩ := I.tuple hT
  simp only at hc hd
  subst hc hd
  have hle : its.length = xs.length := r.length.symm
  have hn : its ≠ [] := fun e => hne (by
    rw [e] at hle
    exact List.eq_nil_of_length_eq_zero hle.symm)
  have hi : its.toArray.isEmpty = false := by
    cases its with
    | nil => exact absurd rfl hn
    | cons a b => rfl
  by_cases hk1 : k = 1
  · subst hk1
    exact wpAny_binaryOp_repeat_ref (T := "tuple") (U := "int") (by decide) ⟨_, ho, rfl⟩ (fun s' => typeIs_int s' 1 t) noFill_tuple_mul F.fills_int_mul F.slot_int_rmul repeat_tuple F.slot_int_index.lookup
      (call_meets F.slot_int_rmul (typeIs_int s 1 t) F.entry_int_rmul (F.args_int_rmul_2 _ _) (int_rmul_tuple 1 t l its.toArray n dd sl)
        ⟨ho, rfl, ⟨_, ho, rfl⟩, call_meets F.slot_tuple_mul ⟨_, ho, rfl⟩ F.entry_tuple_mul (F.args_tuple_mul_2 _ _) (tup_mul1 l its.toArray n dd sl t) ⟨ho, ⟨.ref l, H, I, rfl, q1 rfl⟩⟩⟩)
  by_cases hk : 2 ≤ k
  · have z0 : its.toArray.size = xs.length := by rw [List.size_toArray, hle]
    have a1 : ((xs.length : Nat) : Int) * k ≤ 1000 * 1000 := Int.mul_le_mul (by omega) h1 (by omega) (by omega)
    have a2 : k.toNat * xs.length ≤ 1000 * 1000 := Nat.mul_le_mul (by omega) hz
    have f1 : (List.replicate k.toNat its).flatten.length ≤ sizeLine := by rw [PyProof.Rows.lm_len_rep_flat, hle, sizeLine_eq]; omega
    have c0 : (decide (k < -(2 ^ 63)) || decide (k ≥ 2 ^ 63)) = false := by simp; omega
    have c1 : (its.toArray.isEmpty || k == 1) = false := by rw [hi]; simp; omega
    have c2 : (decide (k ≤ 0) || its.toArray.isEmpty) = false := by rw [hi]; simp; omega
    have c4 : Builtin.Tuple.tupleTooMany (((its.toArray.size : Nat) : Int) * k) = false := by
      unfold Builtin.Tuple.tupleTooMany
      rw [sizeLine_eq, z0]
      exact decide_eq_false (by omega)
    refine wpAny_binaryOp_repeat_ref (T := "tuple") (U := "int") (by decide) ⟨_, ho, rfl⟩ (fun s' => typeIs_int s' k t) noFill_tuple_mul F.fills_int_mul F.slot_int_rmul repeat_tuple F.slot_int_index.lookup
      (call_meets F.slot_int_rmul (typeIs_int s k t) F.entry_int_rmul (F.args_int_rmul_2 _ _) (int_rmul_tuple k t l its.toArray n dd sl)
        ⟨ho, rfl, ⟨_, ho, rfl⟩, call_meets F.slot_tuple_mul ⟨_, ho, rfl⟩ F.entry_tuple_mul (F.args_tuple_mul_2 _ _) (tuple_mulW l its.toArray n dd sl k t c0 c1 c2 (by rw [z0]; omega) c4 (by rw [size_rep, List.size_toArray]; exact f1)) ⟨ho, ?_⟩⟩)
    rw [size_rep]
    exact (q2 (by omega)).fin (t' := s.toks) I (r.rep k.toNat) (by rw [PyProof.Rows.lm_len_rep_flat, sizeLine_eq]; omega)
  · have e0 : k = 0 := by omega
    subst e0
    refine wpAny_binaryOp_repeat_ref (T := "tuple") (U := "int") (by decide) ⟨_, ho, rfl⟩ (fun s' => typeIs_int s' 0 t) noFill_tuple_mul F.fills_int_mul F.slot_int_rmul repeat_tuple F.slot_int_index.lookup
      (call_meets F.slot_int_rmul (typeIs_int s 0 t) F.entry_int_rmul (F.args_int_rmul_2 _ _) (int_rmul_tuple 0 t l its.toArray n dd sl)
        ⟨ho, rfl, ⟨_, ho, rfl⟩, call_meets F.slot_tuple_mul ⟨_, ho, rfl⟩ F.entry_tuple_mul (F.args_tuple_mul_2 _ _) (tup_mul0 l its.toArray n dd sl t hi) ⟨ho, ?_⟩⟩)
    exact (q2 (by decide)).fin (t' := s.toks) (its := []) I (by simp; exact .nil) (by simp)
def rMul' (K : PySem.W.Frag) : R2 := fun x y H Q => ((rI CMul (fun i j => .int (i * j)) x y H Q ∨ rI CMulW (fun i j => .int (i * j)) x y H Q) ∨ rRep x y H Q) ∨ rRepA K x y H Q
theorem op_mul' : OpR X (binaryOp .Mult) (rMul' X.K) := ((op_mul.or op_mulW).or op_rep).or op_repA
theorem one_rep {α : Type} (l : List α) : (List.replicate (1 : Int).toNat l).flatten = l := by simp
theorem ok_mul {K : PySem.W.Frag} : Op2 K (repV K) (repV K) oMul (rMul' K) := by
  intro S H x y z fx fy u v Q e dom sep rx ry h
  unfold oMul at e
  split at e
  · rename_i i j
    split at e
    · rename_i hm
      cases e
      have h1 := rx.2; have h2 := ry.2
      unfold rep at h1 h2
      unfold mulOk at hm
      simp only [Bool.or_eq_true, decide_eq_true_eq] at hm
      have q := pure_end (rep_int (i * j)) h
      rcases hm with (hm | hm) | hm
      · exact .inl (.inl (.inl ⟨_, _, h1, h2, .inl (by omega), q⟩))
      · exact .inl (.inl (.inl ⟨_, _, h1, h2, .inr (by omega), q⟩))
      · exact .inl (.inl (.inr ⟨_, _, h1, h2, hm, q⟩))
    · cases e
  · rename_i l j
    split at e
    · rename_i hz
      cases e
      obtain ⟨hne, h0, h1, h2⟩ := hz
      have hl : rep K S H (.tup l) u := rx.2
      have hl' := hl
      have hj := ry.2
      unfold rep at hl hj
      obtain ⟨a, vs, e1, q1, r1⟩ := hl
      subst e1
      refine .inr ⟨a, j, vs, rfl, hj, q1.sq, fun ev => hne (List.eq_nil_of_length_eq_zero (by rw [r1.length, ev]; rfl)), h0, h1, by rw [← r1.length]; exact h2, fun e1 => ?_, fun _ p ob hp ho => ?_⟩
      · subst e1
        exact pure_end (d := .tup (List.replicate (1 : Int).toNat l).flatten) (by rw [one_rep]; exact hl') h
      · obtain ⟨k, rt⟩ := fresh_tup (r1.rep j.toNat) hp ho
        exact h _ [] _ k (fun _ q => absurd q (by simp)) Sep.nil ⟨rfl, rt⟩
    · cases e
  · rename_i l j
    split at e
    · rename_i hz
      cases e
      obtain ⟨h01, h2⟩ := hz
      obtain ⟨h0, h1⟩ := small_of h01
      obtain ⟨a, vs, e1, _, q1, r1⟩ := rx
      have hj := ry.2
      unfold rep at hj
      refine .inl (.inr ⟨a, j, vs, e1, hj, q1, by omega, by omega, by rw [← r1.length, ← lim_eq]; exact h2, fun p hp => ?_⟩)
      obtain ⟨k, fr, sp, rt⟩ := fresh_lst (r1.rep j.toNat) hp dom
      exact h _ [p] _ k fr sp rt
    · cases e
  · cases e
theorem de_mul (ha : DE X W a m) (hb : DE X W b n) : DE X W (.BinOp a .Mult b pos) (e2 oMul m n) := de_op op_mul' ok_mul ha hb
theorem ok_neg {K : PySem.W.Frag} : Op1 K (repV K) oNeg (rU fun i => .int (-i)) := by
  intro S H x z fx u Q e dom sep rx h
  unfold oNeg at e
  split at e
  · cases e
    have h1 := rx.2
    unfold rep at h1
    exact ⟨_, h1, pure_end (rep_int _) h⟩
  · cases e
theorem de_neg (ha : DE X W a m) : DE X W (.UnaryOp .USub a pos) (e1 oNeg m) := de_un un_neg ok_neg ha
end
end Fx
end

section
set_option Elab.async false
set_option linter.all false
set_option maxRecDepth 100000
set_option maxHeartbeats 4000000
/-! Wf: places, slices, built-ins. -/
namespace Fx
open PySem PySem.Spec PyProof.Rows L2

section
variable {X : Cx} {W : WX} {a b c : Expr} {pos : Pos} {m n : M Vl}
/-! ### places -/
theorem ixN_same (n : Nat) (i : Int) : Fx.ixN n i = L2.ixN n i := rfl
theorem atD_rep {K : PySem.W.Frag} {S : SP'} {H : Hp} {l : List D} {vs : List V} {i : Int} {d : D} (r : reps K S H l vs) (e : atD l i = some d) : ∃ v, atI vs i = some v ∧ rep K S H d v := by
  unfold atD at e
  cases q : Fx.ixN l.length i with
  | none => rw [q] at e; cases e
  | some j =>
    rw [q] at e
    obtain ⟨v, h1, h2⟩ := r.get e
    refine ⟨v, ?_, h2⟩
    unfold atI
    rw [← r.length, ← ixN_same, q]
    exact h1
def rIx' (K : PySem.W.Frag) : R2 := fun x y H Q => rIxL K x y H Q ∨ rIxT K x y H Q
theorem ix_seq' : IxR X (rIx' X.K) := ix_list.or ix_tup
theorem ok_ix {K : PySem.W.Frag} : Op2 K (RP K) (repV K) oIx (rIx' K) := by
  intro S H x y z fx fy u v Q e dom sep rx ry h
  unfold oIx at e
  split at e
  · rename_i l i hl
    cases q : atD l i with
    | none => rw [q] at e; cases e
    | some d =>
      rw [q] at e
      cases e
      obtain ⟨a, vs, h1, h2, h3⟩ := rx.items hl
      obtain ⟨w, h4, h5⟩ := atD_rep h3 q
      have hy := ry.2
      unfold rep at hy
      rcases h2 with h2 | h2
      · exact .inl ⟨a, vs, i, w, h1, hy, h2, h4, pure_end h5 h⟩
      · exact .inr ⟨a, vs, i, w, h1, hy, h2, h4, pure_end h5 h⟩
  · cases e
theorem de_ix (ha : DE X W a m) (hb : DE X W b n) (hs : PlainIx b := by exact fun _ _ => rfl) : DE X W (.Subscript a b pos) (e2 oIx m n) := by
  refine ⟨PEm (pe_ix ix_seq' ha.p hb.p hs) fun σ H Q h => op2_tr (RX := repV X.K) (RY := repV X.K) ?_ (wt_rep _) h⟩
  exact fun S H x y z fx fy u v Q e d s rx ry h => ok_ix S H x y z fx fy u v Q e d s rx.rp ry h
/-- what a place of the names holds, for a name that is looked at -/
theorem wd_at {K : PySem.W.Frag} {S : SP'} {H : Hp} {e : En} {fp : List Addr} {σ : L2.St} {k : Nat} {x : Vl} (wd : Wd K S H e fp σ) (h : e[k]? = some (some x)) : ∃ v fx, σ[k]? = some (some v) ∧ repV K S H x fx v ∧ ∀ a ∈ fx, a ∈ fp := by
  obtain ⟨v, f1, f2, f3, q1, q2, q3, q4⟩ := wd.env.at h
  refine ⟨v, f2, q1, q3, fun a q => ?_⟩
  subst q2
  simp [q]
theorem de_ixP (k : Nat) {x : Str} {p : Pos} (hb : DE X W b n) (hN : X.N[k]? = some x := by rfl) (hv : Vis X.env.scope x := by first | exact Or.inl rfl | exact Or.inr (Or.inl rfl) | exact Or.inr (Or.inr rfl)) (hd : (x == ("__debug__" : Str)) = false := by decide)
    (hcd : (x == ("__classdict__" : Str)) = false := by decide) (hs : PlainIx b := by exact fun _ _ => rfl) : DE X W (.Subscript (.Name x p) b pos) (eIxP k n) := by
  refine ⟨PEm (pe_ix ix_seq' (pe_var hN hv hd hcd) hb.p hs) fun σ H Q h => ?_⟩
  obtain ⟨S, e, fp, wd, p⟩ := h
  unfold eIxP at p
  split at p
  · rename_i x0 he
    obtain ⟨v, fx0, hv, _, _⟩ := wd_at wd he
    refine ⟨v, hv, ?_⟩
    refine TR.bind (R' := repV X.K) (k := fun y e => (match e[k]? with | some (some x) => lift (oIx x y) e | _ => .bad)) (Q := Q) ⟨S, e, fp, wd, p⟩ fun S0 e0 fp0 S1 H1 e1 fp1 fy y w wd0 ext wd1 sep1 ry p1 => ?_
    cases q : e1[k]? with
    | none => simp only [q] at p1; exact p1.elim
    | some o =>
      cases o with
      | none => simp only [q] at p1; exact p1.elim
      | some x =>
        simp only [q] at p1
        obtain ⟨v', fx, hv', rx, hsub⟩ := wd_at wd1 q
        rw [hv] at hv'
        cases hv'
        cases q2 : oIx x y with
        | none => rw [q2] at p1; exact p1.elim
        | some z =>
          rw [q2] at p1
          have hfy : fy = [] := by
            unfold oIx at q2
            split at q2
            · exact ry.1
            · cases q2
          subst hfy
          obtain ⟨d, hz⟩ : ∃ d, z = .v d := by
            unfold oIx at q2
            split at q2
            · rename_i l i hl
              cases q3 : atD l i with
              | none => rw [q3] at q2; cases q2
              | some d => rw [q3] at q2; cases q2; exact ⟨d, rfl⟩
            · cases q2
          subst hz
          unfold oIx at q2
          split at q2
          · rename_i l i hl
            cases q3 : atD l i with
            | none => rw [q3] at q2; cases q2
            | some d' =>
              rw [q3] at q2
              cases q2
              obtain ⟨a, vs, h1, h2, h3⟩ := rx.rp.items hl
              obtain ⟨w', h4, h5⟩ := atD_rep h3 q3
              have hy := ry.2
              unfold rep at hy
              have fin := p1 S1 H1 fp1 [] w' ext wd1 wd1.sep ⟨rfl, h5⟩
              rcases h2 with h2 | h2
              · exact .inl ⟨a, vs, i, w', h1, hy, h2, h4, fin⟩
              · exact .inr ⟨a, vs, i, w', h1, hy, h2, h4, fin⟩
          · cases q2
  · exact p.elim

/-! whole numbers that change nothing -/
structure DN (X : Cx) (e : Expr) (f : N) : Prop where
  p : PE X e (fun σ H Q => ∃ S en fp, Wd X.K S H en fp σ ∧ ∃ i, f en = some i ∧ Q (.int i) H)
theorem dn_i {i : Int} {j : Nat} : DN X (.Constant (.int i) j pos) (nI i) := ⟨PEm pe_int fun σ H Q ⟨S, e, fp, wd, i', h, q⟩ => by cases h; exact q⟩
theorem dn_v (k : Nat) {x : Str} (hN : X.N[k]? = some x := by rfl) (hv : Vis X.env.scope x := by first | exact Or.inl rfl | exact Or.inr (Or.inl rfl) | exact Or.inr (Or.inr rfl)) (hd : (x == ("__debug__" : Str)) = false := by decide)
    (hcd : (x == ("__classdict__" : Str)) = false := by decide) : DN X (.Name x pos) (nV k) := ⟨PEm (pe_var hN hv hd hcd) fun σ H Q ⟨S, e, fp, wd, i, h, q⟩ => by
  unfold nV at h
  split at h
  · rename_i i' he
    cases h
    obtain ⟨v, fx, h1, h2, _⟩ := wd_at wd he
    have := h2.2
    unfold rep at this
    subst this
    exact ⟨_, h1, q⟩
  · cases h⟩
theorem dn_add {f g : N} (ha : DN X a f) (hb : DN X b g) : DN X (.BinOp a .Add b pos) (nAdd f g) := ⟨PEm (pe_add ha.p hb.p) fun σ H Q ⟨S, e, fp, wd, i, h, q⟩ => by
  unfold nAdd at h
  cases h1 : f e with
  | none => rw [h1] at h; cases h
  | some i1 =>
    cases h2 : g e with
    | none => rw [h1, h2] at h; cases h
    | some i2 => rw [h1, h2] at h; cases h; exact ⟨S, e, fp, wd, i1, h1, S, e, fp, wd, i2, h2, i1, i2, rfl, rfl, q⟩⟩
theorem dn_sub {f g : N} (ha : DN X a f) (hb : DN X b g) : DN X (.BinOp a .Sub b pos) (nSub f g) := ⟨PEm (pe_sub ha.p hb.p) fun σ H Q ⟨S, e, fp, wd, i, h, q⟩ => by
  unfold nSub at h
  cases h1 : f e with
  | none => rw [h1] at h; cases h
  | some i1 =>
    cases h2 : g e with
    | none => rw [h1, h2] at h; cases h
    | some i2 => rw [h1, h2] at h; cases h; exact ⟨S, e, fp, wd, i1, h1, S, e, fp, wd, i2, h2, i1, i2, rfl, rfl, q⟩⟩
theorem dn_neg {f : N} (ha : DN X a f) : DN X (.UnaryOp .USub a pos) (nNeg f) := ⟨PEm (pe_un un_neg ha.p) fun σ H Q ⟨S, e, fp, wd, i, h, q⟩ => by
  unfold nNeg at h
  cases h1 : f e with
  | none => rw [h1] at h; cases h
  | some i1 => rw [h1] at h; cases h; exact ⟨S, e, fp, wd, i1, h1, i1, rfl, q⟩⟩
theorem rows.get {K : PySem.W.Frag} {S : SP'} {H : Hp} : ∀ {ls : List (List D)} {as : List Addr} {vs : List V} {i : Nat} {l : List D}, rows K S H ls as vs → ls[i]? = some l → ∃ b ws, as[i]? = some b ∧ vs[i]? = some (.ref b) ∧ H b = some (.lst ws) ∧ reps K S H l ws
  | [], _, _, _, _, _, e => by simp at e
  | l :: ls, _, _, 0, _, h, e => by
    unfold rows at h
    obtain ⟨b, r, ws, rs, h1, h2, h3, h4, h5⟩ := h
    simp at e
    subst h1 h2 e
    exact ⟨b, ws, rfl, rfl, h3, h4⟩
  | l :: ls, _, _, i + 1, _, h, e => by
    unfold rows at h
    obtain ⟨b, r, ws, rs, h1, h2, h3, h4, h5⟩ := h
    subst h1 h2
    simpa using rows.get (i := i) h5 (by simpa using e)
theorem rows.length {K : PySem.W.Frag} {S : SP'} {H : Hp} : ∀ {ls : List (List D)} {as : List Addr} {vs : List V}, rows K S H ls as vs → ls.length = vs.length ∧ ls.length = as.length
  | [], _, _, h => by unfold rows at h; rw [h.1, h.2]; exact ⟨rfl, rfl⟩
  | l :: ls, _, _, h => by
    unfold rows at h
    obtain ⟨b, r, ws, rs, h1, h2, h3, h4, h5⟩ := h
    subst h1 h2
    have := rows.length h5
    simp [this.1, ← this.2]
theorem ix_inv {α : Type} {l : List α} {i : Int} {d : α} (e : atD l i = some d) : ∃ j, Fx.ixN l.length i = some j ∧ l[j]? = some d := by
  unfold atD at e
  cases q : Fx.ixN l.length i with
  | none => rw [q] at e; cases e
  | some j => rw [q] at e; exact ⟨j, rfl, e⟩
theorem atI_of {vs : List V} {n : Nat} {i : Int} {j : Nat} {v : V} (hl : n = vs.length) (e : Fx.ixN n i = some j) (h : vs[j]? = some v) : atI vs i = some v := by
  unfold atI
  rw [← hl, ← ixN_same, e]
  exact h
theorem de_ixPP (k : Nat) {x : Str} {p p1 p2 : Pos} {f g : N} (ha : DN X a f) (hb : DN X b g) (hN : X.N[k]? = some x := by rfl) (hv : Vis X.env.scope x := by first | exact Or.inl rfl | exact Or.inr (Or.inl rfl) | exact Or.inr (Or.inr rfl)) (hd : (x == ("__debug__" : Str)) = false := by decide)
    (hcd : (x == ("__classdict__" : Str)) = false := by decide) (hs : PlainIx a := by exact fun _ _ => rfl) (hs2 : PlainIx b := by exact fun _ _ => rfl) : DE X W (.Subscript (.Subscript (.Name x p) a p1) b p2) (eIxPP k f g) := by
  refine ⟨PEm (pe_ix ix_seq' (pe_ix ix_seq' (pe_var hN hv hd hcd) ha.p hs) hb.p hs2) fun σ H Q h => ?_⟩
  obtain ⟨S, e, fp, wd, p⟩ := h
  unfold eIxPP at p
  split at p
  · rename_i l i j he hi hj
    cases q1 : atD l i with
    | none => simp [q1, lift, Rs.post] at p
    | some r =>
      cases q2 : atD r j with
      | none => simp [q1, q2, lift, Rs.post] at p
      | some d =>
        simp only [q1, q2, Option.bind_some, Option.map_some, lift, Rs.post] at p
        obtain ⟨v, fx, h1, h2, _⟩ := wd_at wd he
        obtain ⟨a0, vs, as, e1, _, e3, e4⟩ := h2
        subst e1
        obtain ⟨n1, g1, g2⟩ := ix_inv q1
        obtain ⟨b0, ws, k1, k2, k3, k4⟩ := e4.get g2
        obtain ⟨w, k5, k6⟩ := atD_rep k4 q2
        refine ⟨_, h1, S, e, fp, wd, i, hi, ?_⟩
        refine .inl ⟨a0, vs, i, .ref b0, rfl, rfl, .inl (.inl e3), atI_of e4.length.1 g1 k2, S, e, fp, wd, j, hj, ?_⟩
        exact .inl ⟨b0, ws, j, w, rfl, rfl, .inl (.inl k3), k5, p S H fp [] w (Ext.refl S H fp) wd wd.sep ⟨rfl, k6⟩⟩
  · exact p.elim

/-! ### slices -/
theorem do_no : DO X W none pNo := ⟨⟨fun pins s σ H Q I ⟨S, e, fp, wd, p⟩ => po_none.run pins s σ H Q I (p S H fp [] none (Ext.refl S H fp) wd wd.sep ⟨rfl, rfl⟩)⟩⟩
theorem do_some (h : DE X W a m) : DO X W (some a) (pSome m) := by
  refine ⟨⟨fun pins s σ H Q I q => (po_some h.p).run pins s σ H Q I ?_⟩⟩
  refine TR.bind (α := Vl) (R' := RO) (k := fun x e => lift (x.int.map some) e) (Q := Q) q fun S e fp S1 H1 e1 fp1 fx x v wd ext wd1 sep1 rx p => ?_
  unfold Vl.int at p
  split at p
  · rename_i i
    have hx := rx.2
    unfold rep at hx
    exact ⟨i, hx, p S1 H1 fp1 [] _ ext.drop wd1 wd1.sep ⟨rfl, rfl⟩⟩
  · exact p.elim
theorem sIx_same (n d : Nat) (o : Option Int) : Fx.sIx n d o = HT.sIx n d o := by
  cases o with
  | none => rfl
  | some v =>
    unfold Fx.sIx HT.sIx
    rfl
theorem cut_rep {K : PySem.W.Frag} {S : SP'} {H : Hp} {l : List D} {vs : List V} (lo hi : Option Int) (r : reps K S H l vs) : reps K S H (cutL l lo hi) (cutV vs lo hi) := by
  unfold cutL cutV
  rw [r.length, sIx_same, sIx_same]
  exact (r.drop _).take _
def rSl' (K : PySem.W.Frag) : V → Option Int → Option Int → Hp → VK → Prop := fun x lo hi H Q => rSlF K x lo hi H Q ∨ rSlL K x lo hi H Q
theorem sl_seq' : SlR X (rSl' X.K) := sl_tupF.or sl_list
theorem de_cut {lo hi : Option Expr} {l h : M (Option Int)} {p2 : Pos} (ha : DE X W a m) (hl : DO X W lo l) (hh : DO X W hi h) : DE X W (.Subscript a (.Slice lo hi none p2) pos) (eCut m l h) := by
  refine ⟨PEm (pe_slice sl_seq' ha.p hl.p hh.p) fun σ H Q q => ?_⟩
  refine TR.bind (R' := repV X.K) (k := fun x e => (l e).then fun l e => (h e).then fun h e => lift (oCut x l h) e) (Q := Q) q fun S e fp S1 H1 e1 fp1 fx x v wd ext wd1 sep1 rx p => ?_
  refine TR.next (R' := repV X.K) (k := fun l e => (h e).then fun h e => lift (oCut x l h) e) (Q := Q) wd1 ext sep1 p fun S2 H2 e2 fp2 fy o o' ext2 st keep wd2 sep2 ro p2 => ?_
  obtain ⟨rfl, rfl⟩ := ro
  refine TR.next (R' := repV X.K) (k := fun h e => lift (oCut x o' h) e) (Q := Q) wd2 ext2 sep2 p2 fun S3 H3 e3 fp3 fz o2 o2' ext3 st3 keep3 wd3 sep3 ro2 p3 => ?_
  obtain ⟨rfl, rfl⟩ := ro2
  have rx3 : repV X.K S3 H3 x fx v := (rx.stb st keep).stb st3 keep3
  have ext4 : Ext S H fp S3 H3 fp3 := ext3.drop
  unfold oCut at p3
  split at p3
  · rename_i t
    have hx : rep X.K S3 H3 (.tup t) v := rx3.2
    have hx' := hx
    unfold rep at hx
    obtain ⟨a0, vs, e0, e1, e2⟩ := hx
    subst e0
    simp only [lift, Rs.post] at p3
    refine .inl ⟨a0, vs, rfl, e1.sq, fun hw => ?_, fun _ pp ob hp ho => ?_⟩
    · refine p3 S3 H3 fp3 [] _ ext4 wd3 wd3.sep ⟨rfl, ?_⟩
      have hc := cut_rep o' o2' e2
      unfold rep
      refine ⟨a0, vs, rfl, e1, ?_⟩
      have hl : (cutL t o' o2').length = t.length := by
        rw [hc.length, e2.length]
        unfold cutV
        rw [List.length_take, List.length_drop]
        have h1 := HT.sIx_le vs.length 0 (Nat.zero_le _) o'
        have h2 := HT.sIx_le vs.length vs.length (Nat.le_refl _) o2'
        omega
      have : cutL t o' o2' = t := by
        unfold cutL at hl ⊢
        rw [List.length_take, List.length_drop] at hl
        have h1 : Fx.sIx t.length 0 o' ≤ t.length := by rw [sIx_same]; exact HT.sIx_le t.length 0 (Nat.zero_le _) o'
        have h2 : Fx.sIx t.length t.length o2' ≤ t.length := by rw [sIx_same]; exact HT.sIx_le t.length t.length (Nat.le_refl _) o2'
        by_cases ht : t.length = 0
        · have : t = [] := List.eq_nil_of_length_eq_zero ht
          subst this; simp
        · have z : Fx.sIx t.length 0 o' = 0 := by omega
          rw [z, List.drop_zero]
          exact List.take_of_length_le (by omega)
      rw [this]
      exact e2
    · obtain ⟨k, rt⟩ := fresh_tup (cut_rep o' o2' e2) hp ho
      exact p3 S3 _ fp3 [] _ (ext4.grow k (fun _ q => absurd q (by simp))) (wd3.grow k) (wd3.grow k).sep ⟨rfl, rt⟩
  all_goals first
    | (obtain ⟨a0, vs, e0, e1, e2⟩ := (rx3.rp).rdl (by first | exact .inl rfl | exact .inr rfl)
       subst e0
       simp only [lift, Rs.post] at p3
       refine .inr ⟨a0, vs, rfl, e1, fun pp hp => ?_⟩
       obtain ⟨k, fr, sp, rt⟩ := fresh_lst (cut_rep o' o2' e2) hp wd3.dom
       exact p3 S3 _ fp3 [pp] _ (ext4.grow k fr) (wd3.grow k) (wd3.sep.grow sp k fr) rt)
    | exact p3.elim

/-! ### built-ins of one value that is looked at -/
theorem de_b1 {id : String} {r : List V → Hp → VK → Prop} {f : Vl → Option Vl} {x : Str} {p : Pos} (hc : CallR X (.builtin id) r) (ok : Op1 X.K (RP X.K) f (fun x H Q => r [x] H Q)) (ha : DP X W a m) (hm : X.mg x = none) (hv : bootBuiltins x = some (.builtin id)) (hg : Gl X x := by rfl) (hn : x ≠ "__name__" := by decide) (hdb : (x == ("__debug__" : Str)) = false := by decide)
    (he : starEach (a :: []) X.env = (false, eval a X.env) :: starEach [] X.env := by rfl) (hpl : (backTo pos (starEach [] X.env)).any (·.1) = false := by rfl) : DE X W (.Call (.Name x p) [a] [] pos) (e1 f m) :=
  ⟨PEm (pe_callB hc hg hm hv (pa_cons ha.p pa_nil he) hn hdb he hpl) fun σ H Q h => op1_tr ok h⟩
theorem de_t1 {T : String} {r : List V → Hp → VK → Prop} {f : Vl → Option Vl} {x : Str} {p : Pos} (hc : CallR X (.type T) r) (ok : Op1 X.K (RP X.K) f (fun x H Q => r [x] H Q)) (ha : DP X W a m) (hm : X.mg x = none) (hv : bootBuiltins x = some (.type T)) (hg : Gl X x := by rfl) (hn : x ≠ "__name__" := by decide) (hdb : (x == ("__debug__" : Str)) = false := by decide)
    (he : starEach (a :: []) X.env = (false, eval a X.env) :: starEach [] X.env := by rfl) (hpl : (backTo pos (starEach [] X.env)).any (·.1) = false := by rfl) : DE X W (.Call (.Name x p) [a] [] pos) (e1 f m) :=
  ⟨PEm (pe_callTy hc hg hm hv (pa_cons ha.p pa_nil he) hn hdb he hpl) fun σ H Q h => op1_tr ok h⟩
theorem rd_sq {K : PySem.W.Frag} {H : Hp} {a : Addr} {vs : List V} (h : SqL K H a vs ∨ SqT K H a vs) : SqL K H a vs ∨ SqT K H a vs := h
theorem ok_len {K : PySem.W.Frag} : Op1 K (RP K) oLen (fun x H Q => ∃ p ys, [x] = [V.ref p] ∧ (SqL K H p ys ∨ SqT K H p ys) ∧ Q (.int ys.length) H) := by
  intro S H x z fx u Q e dom sep rx h
  unfold oLen at e
  cases q : x.items with
  | none => rw [q] at e; cases e
  | some l =>
    rw [q] at e
    cases e
    obtain ⟨a, vs, h1, h2, h3⟩ := rx.items q
    exact ⟨a, vs, by rw [h1], rd_sq h2, by rw [← h3.length]; exact pure_end (rep_int _) h⟩
theorem de_len {x : Str} {p : Pos} (ha : DP X W a m) (hm : X.mg x = none) (hv : bootBuiltins x = some (.builtin "len") := by exact PySem.boot_len) (hg : Gl X x := by rfl) (hn : x ≠ "__name__" := by decide) (hdb : (x == ("__debug__" : Str)) = false := by decide)
    (he : starEach (a :: []) X.env = (false, eval a X.env) :: starEach [] X.env := by rfl) (hpl : (backTo pos (starEach [] X.env)).any (·.1) = false := by rfl) : DE X W (.Call (.Name x p) [a] [] pos) (e1 oLen m) := de_b1 call_len_seq ok_len ha hm hv hg hn hdb he hpl
theorem RP.tupx {K : PySem.W.Frag} {S : SP'} {H : Hp} {x : Vl} {l : List D} {fx : List Addr} {v : V} (e : x.items = some l) (h : RP K S H x fx v) : (∃ a vs, v = .ref a ∧ SqL K H a vs ∧ reps K S H l vs) ∨ rep K S H (.tup l) v := by
  cases x with
  | v d =>
    cases d with
    | tup m =>
      simp only [Vl.items, D.items, Option.some.injEq] at e
      subst e
      exact .inr h.2
    | lst m =>
      simp only [Vl.items, D.items, Option.some.injEq] at e
      subst e
      obtain ⟨_, a, vs, h1, h2, h3⟩ := h
      exact .inl ⟨a, vs, h1, h2, h3⟩
    | _ => simp [Vl.items, D.items] at e
  | o m =>
    simp only [Vl.items, Option.some.injEq] at e
    subst e
    obtain ⟨a, vs, h1, _, h2, h3⟩ := h
    exact .inl ⟨a, vs, h1, .inl (.inl h2), h3⟩
  | oo m => simp [Vl.items] at e
  | dc _ => simp [Vl.items] at e
  | rg _ _ => simp [Vl.items] at e
theorem ok_tuple {K : PySem.W.Frag} : Op1 K (RP K) oTuple (fun x H Q => ∃ p ys, [x] = [V.ref p] ∧ ((SqL K H p ys ∧ newT H Q ys) ∨ (SqT K H p ys ∧ Q (.ref p) H))) := by
  intro S H x z fx u Q e dom sep rx h
  unfold oTuple at e
  cases q : x.items with
  | none => rw [q] at e; cases e
  | some l =>
    rw [q] at e
    cases e
    rcases rx.tupx q with ⟨a, vs, h1, h2, h3⟩ | hx
    · refine ⟨a, vs, by rw [h1], .inl ⟨h2, fun p ob hp ho => ?_⟩⟩
      obtain ⟨k, rt⟩ := fresh_tup h3 hp ho
      exact h _ [] _ k (fun _ q => absurd q (by simp)) Sep.nil ⟨rfl, rt⟩
    · have hx' := hx
      unfold rep at hx
      obtain ⟨a, vs, h1, h2, h3⟩ := hx
      exact ⟨a, vs, by rw [h1], .inr ⟨h2.sq, by rw [← h1]; exact pure_end hx' h⟩⟩
theorem ok_list {K : PySem.W.Frag} : Op1 K (RP K) oList (fun x H Q => ∃ p ys, [x] = [V.ref p] ∧ (SqL K H p ys ∨ SqT K H p ys) ∧ ∀ l, H l = none → Q (.ref l) (upd H l (.lst ys))) := by
  intro S H x z fx u Q e dom sep rx h
  unfold oList at e
  cases q : x.items with
  | none => rw [q] at e; cases e
  | some l =>
    rw [q] at e
    cases e
    obtain ⟨a, vs, h1, h2, h3⟩ := rx.items q
    refine ⟨a, vs, by rw [h1], rd_sq h2, fun p hp => ?_⟩
    obtain ⟨k, fr, sp, rt⟩ := fresh_lst h3 hp dom
    exact h _ [p] _ k fr sp rt
theorem ok_int1 {K : PySem.W.Frag} : Op1 K (RP K) oInt (fun x H Q => (∃ i, [x] = [V.int i] ∧ Q (.int i) H) ∨ ∃ k, [x] = [V.bl k] ∧ Q (.int (if k then 1 else 0)) H) := by
  intro S H x z fx u Q e dom sep rx h
  unfold oInt at e
  split at e
  · cases e
    have h1 := rx.2
    unfold rep at h1
    exact .inl ⟨_, by rw [h1], pure_end (rep_int _) h⟩
  · cases e
    have h1 := rx.2
    unfold rep at h1
    exact .inr ⟨_, by rw [h1], pure_end (rep_int _) h⟩
  · cases e
theorem ok_abs {K : PySem.W.Frag} : Op1 K (RP K) oAbs (fun x H Q => ∃ i, [x] = [V.int i] ∧ Q (.int (if i < 0 then -i else i)) H) := by
  intro S H x z fx u Q e dom sep rx h
  unfold oAbs at e
  split at e
  · cases e
    have h1 := rx.2
    unfold rep at h1
    exact ⟨_, by rw [h1], pure_end (rep_int _) h⟩
  · cases e

/-! any, all, sum, max, min -/
/-- items as they lie -/
theorem items_at {pins : List (Addr × Obj)} {σ : L2.St} {H : Hp} {s : Shared} {a : Addr} {vs : List V} {l : List D} {S : SP'} (I : Inv X pins σ H s) (h : SqL X.K H a vs ∨ SqT X.K H a vs) (r : reps X.K S H l vs) :
    ∃ its : List Value, Vals vs its ∧ (s.heap.IsList a its.toArray ∨ s.heap.IsTuple a its.toArray) ∧ ∃ as, ReadsAll s.heap its.toArray.toList (D.pys l) as := by
  rcases h with h | h
  · obtain ⟨hz, its, n, dd, sl, rv, hl, e⟩ := Inv.rdl I h
    obtain ⟨as, q⟩ := Dp.readsAll I _ vs its r.dp rv
    exact ⟨its, rv, .inl ⟨_, e, rfl, n, rfl⟩, as, q⟩
  · obtain ⟨its, rv, ⟨o, e1, e2, n, e3⟩, _⟩ := I.tuple h
    obtain ⟨as, q⟩ := Dp.readsAll I _ vs its r.dp rv
    exact ⟨its, rv, .inr ⟨o, e1, e2, n, e3⟩, as, q⟩
def rIt (K : PySem.W.Frag) (f : List D → Option D) : List V → Hp → VK → Prop := fun xs H Q => ∃ a vs l S d, xs = [V.ref a] ∧ (SqL K H a vs ∨ SqT K H a vs) ∧ reps K S H l vs ∧ f l = some d ∧ ∀ w, rep K S H d w → Q w H
theorem ok_it {K : PySem.W.Frag} {f : List D → Option D} {g : Vl → Option Vl} (hg : ∀ x, g x = (x.items.bind f).map .v) : Op1 K (RP K) g (fun x H Q => rIt K f [x] H Q) := by
  intro S H x z fx u Q e dom sep rx h
  rw [hg] at e
  cases q : x.items with
  | none => rw [q] at e; cases e
  | some l =>
    rw [q] at e
    cases q2 : f l with
    | none => rw [Option.bind_some, q2] at e; cases e
    | some d =>
      rw [Option.bind_some, q2] at e
      cases e
      obtain ⟨a, vs, h1, h2, h3⟩ := rx.items q
      exact ⟨a, vs, l, S, d, by rw [h1], h2, h3, q2, fun w r => pure_end r h⟩
theorem bools_py : ∀ {l : List D} {bs : List Bool}, D.bools l = some bs → D.pys l = bs.map PyData.bool
  | [], _, h => by cases h; rfl
  | .bl b :: l, _, h => by
    simp only [D.bools] at h
    cases q : D.bools l with
    | none => rw [q] at h; cases h
    | some bs => rw [q] at h; cases h; simp only [D.pys, D.py, List.map_cons, bools_py q]
  | .non :: _, _, h => by cases h
  | .int _ :: _, _, h => by cases h
  | .str _ :: _, _, h => by cases h
  | .tup _ :: _, _, h => by cases h
  | .lst _ :: _, _, h => by cases h
theorem ints_py : ∀ {l : List D} {bs : List Int}, D.ints l = some bs → D.pys l = bs.map PyData.int
  | [], _, h => by cases h; rfl
  | .int b :: l, _, h => by
    simp only [D.ints] at h
    cases q : D.ints l with
    | none => rw [q] at h; cases h
    | some bs => rw [q] at h; cases h; simp only [D.pys, D.py, List.map_cons, ints_py q]
  | .non :: _, _, h => by cases h
  | .bl _ :: _, _, h => by cases h
  | .str _ :: _, _, h => by cases h
  | .tup _ :: _, _, h => by cases h
  | .lst _ :: _, _, h => by cases h
theorem any_truthy (bs : List Bool) : (bs.map PyData.bool).any PyData.truthy = bs.any id := by rw [List.any_map]; rfl
theorem all_truthy (bs : List Bool) : (bs.map PyData.bool).all PyData.truthy = bs.all id := by rw [List.all_map]; rfl
theorem bool_fits (bs : List Bool) : ∀ x ∈ bs.map PyData.bool, x.fits63 := fun x h => by
  obtain ⟨b, _, rfl⟩ := List.mem_map.mp h
  exact trivial
theorem bool_plain : ∀ bs : List Bool, PyData.plainAll (bs.map PyData.bool) = true
  | [] => rfl
  | b :: bs => by simp only [List.map_cons, PyData.plainAll, PyData.plain, bool_plain bs, Bool.and_self]
theorem call_any' (hc : X.calm = true) : CallR X (.builtin "any") (rIt X.K fun l => (D.bools l).map fun bs => .bl (bs.any id)) := by
  intro pins s σ H xs us Q I r h
  obtain ⟨a, vs, l, S, d, rfl, ha, rl, hf, q⟩ := h
  obtain ⟨u, rfl, rx⟩ := vals1 r
  cases rx
  dsimp only at hf
  cases hb : D.bools l with
  | none => rw [hb] at hf; cases hf
  | some bs =>
    rw [hb] at hf
    cases hf
    obtain ⟨its, rv, hl, as, hr⟩ := items_at I ha rl
    rw [bools_py hb] at hr
    have fin : ∀ h' tk, (∀ b o, s.heap.get? b = some o → h'.get? b = some o) → EP X pins σ Q (.bool ((bs.map PyData.bool).any PyData.truthy)) { s with heap := h', toks := tk } := fun h' tk k =>
      ⟨.bl _, H, I.kept k, rfl, by rw [any_truthy]; exact q _ (rep_bl _)⟩
    rcases hl with hl | hl
    · exact PySem.W.any_list_data (I.ok.hd hc) hl hr (bool_plain bs) (bool_fits bs) fin
    · exact PySem.W.any_tuple_data (I.ok.hd hc) hl hr (bool_plain bs) (bool_fits bs) fin
theorem call_all' (hc : X.calm = true) : CallR X (.builtin "all") (rIt X.K fun l => (D.bools l).map fun bs => .bl (bs.all id)) := by
  intro pins s σ H xs us Q I r h
  obtain ⟨a, vs, l, S, d, rfl, ha, rl, hf, q⟩ := h
  obtain ⟨u, rfl, rx⟩ := vals1 r
  cases rx
  dsimp only at hf
  cases hb : D.bools l with
  | none => rw [hb] at hf; cases hf
  | some bs =>
    rw [hb] at hf
    cases hf
    obtain ⟨its, rv, hl, as, hr⟩ := items_at I ha rl
    rw [bools_py hb] at hr
    have fin : ∀ h' tk, (∀ b o, s.heap.get? b = some o → h'.get? b = some o) → EP X pins σ Q (.bool ((bs.map PyData.bool).all PyData.truthy)) { s with heap := h', toks := tk } := fun h' tk k =>
      ⟨.bl _, H, I.kept k, rfl, by rw [all_truthy]; exact q _ (rep_bl _)⟩
    rcases hl with hl | hl
    · exact PySem.W.all_list_data (I.ok.hd hc) hl hr (bool_plain bs) (bool_fits bs) fin
    · exact PySem.W.all_tuple_data (I.ok.hd hc) hl hr (bool_plain bs) (bool_fits bs) fin
theorem ints_alike (bs : List Int) : ∀ x ∈ bs.map PyData.int, ∀ y ∈ bs.map PyData.int, PySem.W.alike x y = true := fun x hx y hy => by
  obtain ⟨i, _, rfl⟩ := List.mem_map.mp hx
  obtain ⟨j, _, rfl⟩ := List.mem_map.mp hy
  simp [PySem.W.alike]
end
end Fx
end

section
set_option Elab.async false
set_option linter.all false
set_option maxRecDepth 100000
set_option maxHeartbeats 4000000
/-! Wg: more built-ins; what is walked. -/
namespace Fx
open PySem PySem.Spec PyProof.Rows L2
section
variable {X : Cx} {W : WX} {a b c : Expr} {pos : Pos} {m n : M Vl}
theorem pys_depth_ints : ∀ bs : List Int, PyData.depthAll (bs.map PyData.int) = 0
  | [] => rfl
  | b :: bs => by simp only [List.map_cons, PyData.depthAll, PyData.depth, pys_depth_ints bs]; rfl
theorem alike_ints' (bs : List Int) : PySem.W.AlikeAll (bs.map PyData.int) := ⟨ints_alike bs, fun x hx => by
  obtain ⟨i, _, rfl⟩ := List.mem_map.mp hx
  exact fun z => nomatch z⟩
theorem call_maxL (hc : X.calm = true) (hu : X.A.units + 66 < cLine) : CallR X (.builtin "max") (rIt X.K fun l => ((D.ints l).bind maxL).map .int) := by
  intro pins s σ H xs us Q I r h
  obtain ⟨a, vs, l, S, d, rfl, ha, rl, hf, q⟩ := h
  obtain ⟨u, rfl, rx⟩ := vals1 r
  cases rx
  dsimp only at hf
  cases hb : D.ints l with
  | none => rw [hb] at hf; cases hf
  | some bs =>
    rw [hb, Option.bind_some] at hf
    obtain ⟨its, rv, hl, as, hr⟩ := items_at I ha rl
    rw [ints_py hb] at hr
    cases bs with
    | nil => cases hf
    | cons x bs =>
      cases hf
      have fin : ∀ (i : Nat) (v : Value) (h' : Heap) tk bs', its.toArray[i]? = some v → Reads h' v (PySem.W.maxD (.int x) (bs.map PyData.int)) bs' → (∀ b o, s.heap.get? b = some o → h'.get? b = some o) → EP X pins σ Q v { s with heap := h', toks := tk } := fun i v h' tk bs' _ rd k => by
        rw [PySem.W.maxD_ints] at rd
        cases rd
        exact ⟨.int _, H, I.kept k, ⟨_, rfl⟩, q _ (rep_int _)⟩
      have hd : X.A.units + 1 + PyData.depthAll (PyData.int x :: bs.map PyData.int) < cLine := by
        have := pys_depth_ints (x :: bs)
        rw [List.map_cons] at this
        rw [this]; omega
      rcases hl with hl | hl
      · exact PySem.W.max_list_data (I.ok.hd hc) hl hr (alike_ints' (x :: bs)) hd fin
      · exact PySem.W.max_tuple_data (I.ok.hd hc) hl hr (alike_ints' (x :: bs)) hd fin
theorem call_minL (hc : X.calm = true) (hu : X.A.units + 66 < cLine) : CallR X (.builtin "min") (rIt X.K fun l => ((D.ints l).bind minL).map .int) := by
  intro pins s σ H xs us Q I r h
  obtain ⟨a, vs, l, S, d, rfl, ha, rl, hf, q⟩ := h
  obtain ⟨u, rfl, rx⟩ := vals1 r
  cases rx
  dsimp only at hf
  cases hb : D.ints l with
  | none => rw [hb] at hf; cases hf
  | some bs =>
    rw [hb, Option.bind_some] at hf
    obtain ⟨its, rv, hl, as, hr⟩ := items_at I ha rl
    rw [ints_py hb] at hr
    cases bs with
    | nil => cases hf
    | cons x bs =>
      cases hf
      have fin : ∀ (i : Nat) (v : Value) (h' : Heap) tk bs', its.toArray[i]? = some v → Reads h' v (PySem.W.minD (.int x) (bs.map PyData.int)) bs' → (∀ b o, s.heap.get? b = some o → h'.get? b = some o) → EP X pins σ Q v { s with heap := h', toks := tk } := fun i v h' tk bs' _ rd k => by
        rw [PySem.W.minD_ints] at rd
        cases rd
        exact ⟨.int _, H, I.kept k, ⟨_, rfl⟩, q _ (rep_int _)⟩
      have hd : X.A.units + 1 + PyData.depthAll (PyData.int x :: bs.map PyData.int) < cLine := by
        have := pys_depth_ints (x :: bs)
        rw [List.map_cons] at this
        rw [this]; omega
      rcases hl with hl | hl
      · exact PySem.W.min_list_data (I.ok.hd hc) hl hr (alike_ints' (x :: bs)) hd fin
      · exact PySem.W.min_tuple_data (I.ok.hd hc) hl hr (alike_ints' (x :: bs)) hd fin
theorem ints_val {h : Heap} : ∀ {vs : List Value} {ns : List Int} {as : List Addr}, ReadsAll h vs (ns.map PyData.int) as → IntsAre vs ns
  | _, [], _, r => by cases r; exact .nil
  | _, n :: ns, _, r => by
    cases r with
    | cons h1 h2 => cases h1; exact .cons _ _ (ints_val h2)
theorem sum_pre (f : Nat → Int) : ∀ n, preSum f n = ((List.range n).map f).sum
  | 0 => rfl
  | n + 1 => by
    rw [List.range_succ, List.map_append, List.sum_append, ← sum_pre f n]
    show preSum f n + f n = _
    simp
theorem map_getD : ∀ ns : List Int, (List.range ns.length).map (fun i => ns.getD i 0) = ns := fun ns => by
  apply List.ext_getElem
  · simp
  · intro i h1 h2
    simp only [List.getElem_map, List.getElem_range]
    simp only [List.length_map, List.length_range] at h1
    simp [List.getD, h1]
theorem ints_get {vs : List Value} {ns : List Int} (h : IntsAre vs ns) : ∀ (i : Nat) (v : Value), vs[i]? = some v → ∃ t, v = .int (ns.getD i 0) t := by
  induction h with
  | nil => intro i v e; simp at e
  | cons n t hr ih =>
    intro i v e
    cases i with
    | zero => simp at e; subst e; exact ⟨_, rfl⟩
    | succ i => simpa using ih i v (by simpa using e)
theorem call_sum' (hc : X.calm = true) : CallR X (.builtin "sum") (rIt X.K fun l => (D.ints l).map fun ns => .int ns.sum) := by
  intro pins s σ H xs us Q I r h
  obtain ⟨a, vs, l, S, d, rfl, ha, rl, hf, q⟩ := h
  obtain ⟨u, rfl, rx⟩ := vals1 r
  cases rx
  dsimp only at hf
  cases hb : D.ints l with
  | none => rw [hb] at hf; cases hf
  | some ns =>
    rw [hb] at hf
    cases hf
    obtain ⟨its, rv, hl, as, hr⟩ := items_at I ha rl
    rw [ints_py hb] at hr
    have hi : IntsAre its ns := ints_val (by simpa using hr)
    have hlen : its.toArray.size = ns.length := by
      have : ∀ {vs : List Value} {ns : List Int}, IntsAre vs ns → vs.length = ns.length := by
        intro vs ns h
        induction h with
        | nil => rfl
        | cons _ _ _ ih => simp [ih]
      simpa using this hi
    have eqs : preSum (fun i => ns.getD i 0) its.toArray.size = ns.sum := by rw [sum_pre, hlen, map_getD]
    have fin : ∀ (s2 s' : Shared) (t' : Tok), s2.heap.objs.size = s2.heap.objs.size → (∀ b o, s.heap.get? b = some o → s'.heap.get? b = some o) → s'.gens = s.gens → s'.drawn = s.drawn → s'.os = s.os → EP X pins σ Q (.int (preSum (fun i => ns.getD i 0) its.toArray.size) t') s' := fun s2 s' t' _ k e1 e2 e3 => by
      obtain ⟨h', g', d', tk', o'⟩ := s'
      simp only at e1 e2 e3 k
      subst e1 e2 e3
      exact ⟨.int ns.sum, H, I.kept k, ⟨t', by rw [eqs]⟩, q _ (rep_int _)⟩
    rcases hl with hl | hl
    · refine call_sum_walkAnyS (PySem.W.iter_listW (A := X.A.in1) (I.ok.hd hc) hl fun s₂ e WW st hfp hw hk => ?_)
      refine ⟨_, _, _, _, _, _, _, fun i => ns.getD i 0, rfl, WW, st, hfp, fun i v hv => ints_get hi i v (by simpa using hv), fun s' t' mv => ?_⟩
      obtain ⟨h', tk, rfl, hk'⟩ := PySem.W.moved_old e rfl mv
      exact fin s _ t' rfl hk' rfl rfl rfl
    · refine call_sum_walkAnyS (PySem.W.iter_tupleW (A := X.A.in1) (I.ok.hd hc) hl fun s₂ e WW st hfp hw hk => ?_)
      refine ⟨_, _, _, _, _, _, _, fun i => ns.getD i 0, rfl, WW, st, hfp, fun i v hv => ints_get hi i v (by simpa using hv), fun s' t' mv => ?_⟩
      obtain ⟨h', tk, rfl, hk'⟩ := PySem.W.moved_old e rfl mv
      exact fin s _ t' rfl hk' rfl rfl rfl
theorem ok_anyA {K : PySem.W.Frag} : Op1 K (RP K) oAny (fun x H Q => rIt K (fun l => (D.bools l).map fun bs => .bl (bs.any id)) [x] H Q) := ok_it fun x => by
  unfold oAny
  cases x.items with
  | none => rfl
  | some l => simp only [Option.bind_some]; cases D.bools l <;> rfl
theorem ok_allA {K : PySem.W.Frag} : Op1 K (RP K) oAll (fun x H Q => rIt K (fun l => (D.bools l).map fun bs => .bl (bs.all id)) [x] H Q) := ok_it fun x => by
  unfold oAll
  cases x.items with
  | none => rfl
  | some l => simp only [Option.bind_some]; cases D.bools l <;> rfl
theorem ok_sumA {K : PySem.W.Frag} : Op1 K (RP K) oSum (fun x H Q => rIt K (fun l => (D.ints l).map fun ns => .int ns.sum) [x] H Q) := ok_it fun x => by
  unfold oSum
  cases x.items with
  | none => rfl
  | some l => simp only [Option.bind_some]; cases D.ints l <;> rfl
theorem ok_maxA {K : PySem.W.Frag} : Op1 K (RP K) oMaxL (fun x H Q => rIt K (fun l => ((D.ints l).bind maxL).map .int) [x] H Q) := ok_it fun x => by
  unfold oMaxL
  cases x.items with
  | none => rfl
  | some l =>
    simp only [Option.bind_some]
    cases h : D.ints l with
    | none => rfl
    | some ns => simp only [Option.bind_some]; cases maxL ns <;> rfl
theorem ok_minA {K : PySem.W.Frag} : Op1 K (RP K) oMinL (fun x H Q => rIt K (fun l => ((D.ints l).bind minL).map .int) [x] H Q) := ok_it fun x => by
  unfold oMinL
  cases x.items with
  | none => rfl
  | some l =>
    simp only [Option.bind_some]
    cases h : D.ints l with
    | none => rfl
    | some ns => simp only [Option.bind_some]; cases minL ns <;> rfl
/-! two ints -/
theorem de_b2 {id : String} {r : List V → Hp → VK → Prop} {f : Vl → Vl → Option Vl} {x : Str} {p : Pos} (hc : CallR X (.builtin id) r) (ok : Op2 X.K (repV X.K) (repV X.K) f (fun x y H Q => r [x, y] H Q)) (ha : DE X W a m) (hb : DE X W b n) (hm : X.mg x = none) (hv : bootBuiltins x = some (.builtin id)) (hg : Gl X x := by rfl) (hn : x ≠ "__name__" := by decide) (hdb : (x == ("__debug__" : Str)) = false := by decide)
    (he : starEach (a :: [b]) X.env = (false, eval a X.env) :: starEach [b] X.env := by rfl) (he2 : starEach (b :: []) X.env = (false, eval b X.env) :: starEach [] X.env := by rfl) (hpl : (backTo pos (starEach [b] X.env)).any (·.1) = false := by rfl) : DE X W (.Call (.Name x p) [a, b] [] pos) (e2 f m n) :=
  ⟨PEm (pe_callB hc hg hm hv (pa_cons ha.p (pa_cons hb.p pa_nil he2) he) hn hdb he hpl) fun σ H Q h => op2_tr (X := X) (W := W) (RX := repV X.K) (RY := repV X.K) ok (wt_rep _) h⟩
theorem ok_max2 {K : PySem.W.Frag} : Op2 K (repV K) (repV K) oMax2 (fun x y H Q => ∃ i j, [x, y] = [V.int i, V.int j] ∧ Q (.int (if j > i then j else i)) H) :=
  ok_int2 (fun i j => some (.int (if i < j then j else i))) (fun i j d e K S H => by cases e; exact ⟨_, rep_int _, fun H Q q => ⟨i, j, rfl, q⟩⟩) fun x y z e => by
    unfold oMax2 at e
    split at e
    · cases e; exact ⟨_, _, _, rfl, rfl, rfl, rfl⟩
    · cases e
theorem ok_min2 {K : PySem.W.Frag} : Op2 K (repV K) (repV K) oMin2 (fun x y H Q => ∃ i j, [x, y] = [V.int i, V.int j] ∧ Q (.int (if j < i then j else i)) H) :=
  ok_int2 (fun i j => some (.int (if j < i then j else i))) (fun i j d e K S H => by cases e; exact ⟨_, rep_int _, fun H Q q => ⟨i, j, rfl, q⟩⟩) fun x y z e => by
    unfold oMin2 at e
    split at e
    · cases e; exact ⟨_, _, _, rfl, rfl, rfl, rfl⟩
    · cases e
/-! isinstance -/
def Ty.name : Ty → String
  | .tInt => "int"
  | .tBool => "bool"
  | .tStr => "str"
  | .tTuple => "tuple"
  | .tList => "list"
theorem call_isD (t : Ty) : CallR X (.builtin "isinstance") (fun xs H Q => ∃ x d, xs = [x, .ty t.name] ∧ Dp X.K H x (D.py d) ∧ Q (.bl (d.isA t)) H) := by
  intro pins s σ H xs us Q I r h
  obtain ⟨x, d, rfl, hd, q⟩ := h
  obtain ⟨u1, u2, rfl, r1, r2⟩ := vals2 r
  obtain ⟨as, rd⟩ := Dp.reads I _ x u1 hd r1
  cases r2
  cases t
  · refine PySem.W.isinstance_int_data rd fun tk _ => ⟨.bl _, H, I.tok tk, rfl, ?_⟩
    cases d <;> exact q
  · refine PySem.W.isinstance_bool_data rd fun tk _ => ⟨.bl _, H, I.tok tk, rfl, ?_⟩
    cases d <;> exact q
  · refine PySem.W.isinstance_str_data rd fun tk _ => ⟨.bl _, H, I.tok tk, rfl, ?_⟩
    cases d <;> exact q
  · refine PySem.W.isinstance_tuple_data rd fun tk _ => ⟨.bl _, H, I.tok tk, rfl, ?_⟩
    cases d <;> exact q
  · refine PySem.W.isinstance_list_data rd fun tk _ => ⟨.bl _, H, I.tok tk, rfl, ?_⟩
    cases d <;> exact q
theorem de_isA (t : Ty) {x y : Str} {p p2 : Pos} (ha : DP X W a m) (hm : X.mg x = none) (hmy : X.mg y = none) (hv : bootBuiltins x = some (.builtin "isinstance")) (hvy : bootBuiltins y = some (.type t.name)) (hg : Gl X x := by rfl) (hgy : Gl X y := by rfl) (hn : x ≠ "__name__" := by decide) (hny : y ≠ "__name__" := by decide) (hdb : (x == ("__debug__" : Str)) = false := by decide) (hdy : (y == ("__debug__" : Str)) = false := by decide)
    (he : starEach (a :: [.Name y p2]) X.env = (false, eval a X.env) :: starEach [.Name y p2] X.env := by rfl) (he2 : starEach (.Name y p2 :: []) X.env = (false, eval (.Name y p2) X.env) :: starEach [] X.env := by rfl) (hpl : (backTo pos (starEach [.Name y p2] X.env)).any (·.1) = false := by rfl) :
    DE X W (.Call (.Name x p) [a, .Name y p2] [] pos) (e1 (oIsA t) m) := by
  refine ⟨PEm (pe_callB (call_isD t) hg hm hv (pa_cons ha.p (pa_cons (pe_bltn (v := .ty t.name) hgy hmy hvy rfl hny hdy) pa_nil he2) he) hn hdb he hpl) fun σ H Q h => ?_⟩
  refine TR.bind (R' := repV X.K) (k := fun x e => lift (oIsA t x) e) (Q := Q) h fun S e fp S1 H1 e1 fp1 fx x v wd ext wd1 sep1 rx p => ?_
  unfold oIsA at p
  cases q : x.d with
  | none => rw [q] at p; exact p.elim
  | some d =>
    rw [q] at p
    exact ⟨v, d, rfl, rx.dp q, p S1 H1 fp1 [] _ ext.drop wd1 wd1.sep ⟨rfl, rep_bl _⟩⟩

/-! ### what is walked -/
/-- how an item lies: as data, or (of enumerate, zip) as a pair that is unpacked at once -/
def RY (K : PySem.W.Frag) (Y : Bool) (S : SP') (H : Hp) (d : D) (v : V) : Prop := match Y with
  | false => rep K S H d v
  | true => ∃ ds a vs, d = .tup ds ∧ v = .ref a ∧ SqT K H a vs ∧ reps K S H ds vs
/-- J walks these data, as long as what is read for good stands -/
def Wk (K : PySem.W.Frag) (S : SP') (H : Hp) (J : It) (ds : List D) (Y : Bool := false) : Prop := ∀ S' H', Stb S H S' H' →
  (∀ (i : Nat) (d : D), ds[i]? = some d → J.go i H' ∧ ∀ x H3, J.yld i H' x H3 → (∀ a o, H' a = some o → H3 a = some o) ∧ RY K Y S' H3 d x) ∧ J.stop ds.length H'
structure DI (X : Cx) (W : WX) (tg iter : Expr) (m : M (List D)) (Y : Bool := false) : Prop where
  p : PI X tg iter (fun σ H R => TR X.K X.mg W (fun S H ds fx (J : It) => fx = [] ∧ Wk X.K S H J ds Y) m σ H R)
theorem PIm {X : Cx} {tg e : Expr} {t t' : TI} (h : PI X tg e t) (k : ∀ σ H Q, t' σ H Q → t σ H Q) : PI X tg e t' := ⟨fun pins s σ H R I q => h.run pins s σ H R I (k σ H R q)⟩
theorem wk_list {K : PySem.W.Frag} {S : SP'} {H : Hp} {a : Addr} {vs : List V} {l : List D} (h : Ls K S H a vs) (r : reps K S H l vs) : Wk K S H (Itl K a) l := fun S' H' st => by
  have h' : SqL K H' a vs := (h.stb st).sq
  refine ⟨fun i d e => ?_, ⟨vs, h', by rw [r.length]; exact Nat.le_refl _⟩⟩
  obtain ⟨v, hv, rv⟩ := r.get e
  refine ⟨⟨vs, v, h', hv⟩, fun x H3 y => ?_⟩
  obtain ⟨y1, y2⟩ := y
  subst y1
  have := y2 vs h'
  rw [hv] at this
  cases this
  exact ⟨fun _ _ h => h, rep.stb st d _ rv⟩
theorem wk_tup {K : PySem.W.Frag} {S : SP'} {H : Hp} {a : Addr} {vs : List V} {l : List D} (h : SqT K H a vs) (r : reps K S H l vs) : Wk K S H (Itt K a) l := fun S' H' st => by
  have h' : SqT K H' a vs := SqT.stb st h
  refine ⟨fun i d e => ?_, ⟨vs, h', by rw [r.length]; exact Nat.le_refl _⟩⟩
  obtain ⟨v, hv, rv⟩ := r.get e
  refine ⟨⟨vs, v, h', hv⟩, fun x H3 y => ?_⟩
  obtain ⟨y1, y2⟩ := y
  subst y1
  have := y2 vs h'
  rw [hv] at this
  cases this
  exact ⟨fun _ _ h => h, rep.stb st d _ rv⟩
/-- a list or a tuple: either rule of the layer joined -/
theorem pi_any {tg : Expr} {t : TE} (h : PE X a t) : PI X tg a (fun σ H R => t σ H fun x H1 => ∃ l, x = .ref l ∧ ((∃ xs, SqL X.K H1 l xs) ∧ R (Itl X.K l) H1 ∨ (∃ xs, SqT X.K H1 l xs) ∧ R (Itt X.K l) H1)) := by
  refine ⟨fun pins s σ H R I hw => ?_⟩
  refine thn (h.run pins s σ H _ I hw) fun v s1 ⟨x, H1, I1, r1, l, e1, q1⟩ => ?_
  subst e1
  cases r1
  rcases q1 with ⟨⟨xs, hx⟩, q⟩ | ⟨⟨xs, hx⟩, q⟩
  · obtain ⟨its, rv, pl, hz⟩ := I1.list hx
    have hl := rv.length
    refine wpAny_pyIter_list pl.isList ?_
    have I2 : Inv X pins σ H1 { s1 with heap := s1.heap.push { cls := .type "list_iterator", data := .fields #[.ref l, .int 0 0] } } := I1.kept (t' := s1.toks) fun b o e => Heap.get?_push_of_some _ e
    refine ⟨s1.heap.objs.size, [s1.heap.objs.size], _, _, H1, rfl, I2, turn_list l _, ⟨_, Heap.get?_push_size _ rfl, rfl, rfl⟩, fun b hb => ?_, q⟩
    have e : b = s1.heap.objs.size := by simpa using hb
    subst e
    exact I1.fpOk (Nat.le_refl _) (I1.hok.fresh (Nat.le_refl _))
  · obtain ⟨its, rv, pl, hz⟩ := I1.tuple hx
    have hl := rv.length
    refine wpAny_pyIter_tuple (show s1.heap.IsTuple l its.toArray from pl) ?_
    have I2 : Inv X pins σ H1 { s1 with heap := s1.heap.push { cls := .type "tuple_iterator", data := .fields #[.ref l, .int 0 0] } } := I1.kept (t' := s1.toks) fun b o e => Heap.get?_push_of_some _ e
    refine ⟨s1.heap.objs.size, [s1.heap.objs.size], _, _, H1, rfl, I2, turn_tuple l _, ⟨_, Heap.get?_push_size _ rfl, rfl, rfl⟩, fun b hb => ?_, q⟩
    have e : b = s1.heap.objs.size := by simpa using hb
    subst e
    exact I1.fpOk (Nat.le_refl _) (I1.hok.fresh (Nat.le_refl _))
end
end Fx
end

section
set_option Elab.async false
set_option linter.all false
set_option maxRecDepth 100000
set_option maxHeartbeats 4000000
/-! Wh: enumerate of a tuple; what is walked; targets. -/
namespace Fx
open PySem PySem.Spec PyProof.Rows L2

theorem enum_newT (l : Addr) (items : Array Value) :
    Meets (Builtin.«enumerate.__new__» ⟨[.type "enumerate", .ref l], []⟩) (fun _ R s => s.heap.IsTuple l items ∧
      R (.ok (.ret (.ref (s.heap.push { cls := .type "tuple_iterator", data := .fields #[.ref l, .int 0 0] }).objs.size)))
        { s with heap := (s.heap.push { cls := .type "tuple_iterator", data := .fields #[.ref l, .int 0 0] }).push { cls := .type "enumerate", data := .fields #[.none, .bool false, .ref s.heap.objs.size, rawInt 0, .none, .none] } }) :=
  .of_wp fun prog w A R s h => by
    obtain ⟨hp, g, d, tk, os⟩ := s
    obtain ⟨hL, h⟩ := h
    have hsub := sub_enumerate
    have q1 : ∀ {A' : Around} {E : Value → Shared → Prop} {Q : Value → Shared → Prop}, Q (.ref hp.objs.size) ⟨hp.push { cls := .type "tuple_iterator", data := .fields #[.ref l, .int 0 0] }, g, d, tk, os⟩ → wpAny (model prog w) A' (pyIter (.ref l)) Q E ⟨hp, g, d, tk, os⟩ :=
      fun q => wpAny_pyIter_tuple hL q
    wp_walk using q1
    refine wpAny_stack_any fun st => wpAny_pure ?_
    split
    · rename_i c _ _ _ _ _
      cases (c == Value.type "enumerate")
      · wp_walk using q1
        exact ⟨_, rfl, h⟩
      · wp_walk using q1
        exact ⟨_, rfl, h⟩
    · wp_walk using q1
      exact ⟨_, rfl, h⟩
section
variable {prog : Program} {w : World} {A : Around} {E : Value → Shared → Prop} {s : Shared}
theorem call_enumT {l : Addr} {items : Array Value} {Q : Value → Shared → Prop} (hL : s.heap.IsTuple l items)
    (h : ∀ h', IsEnum h' (s.heap.objs.size + 1) s.heap.objs.size 0 .none → h'.IsTupleIter s.heap.objs.size l 0 →
      (∀ b o, s.heap.get? b = some o → h'.get? b = some o) → Q (.ref (s.heap.objs.size + 1)) { s with heap := h' }) :
    wpAny (model prog w) A (call (.type "enumerate") [.ref l]) Q E s := by
  refine callType_new F.called_enumerate (by decide) (F.typeCall_enumerate_1 _) (F.newCall_enumerate_1 _) (fun obj => F.args_object_init_2 obj _) F.entry_enumerate_new
    (enum_newT l items) ⟨hL, ?_⟩
  have hz : (s.heap.push { cls := .type "tuple_iterator", data := .fields #[.ref l, .int 0 0] }).objs.size = s.heap.objs.size + 1 := Heap.size_push ..
  show _ ∧ _
  rw [hz]
  have he : IsEnum ((s.heap.push { cls := .type "tuple_iterator", data := .fields #[.ref l, .int 0 0] }).push
      { cls := .type "enumerate", data := .fields #[.none, .bool false, .ref s.heap.objs.size, rawInt 0, .none, .none] }) (s.heap.objs.size + 1) s.heap.objs.size 0 .none := by
    have := Heap.get?_push_size (s.heap.push { cls := .type "tuple_iterator", data := .fields #[.ref l, .int 0 0] })
      (o := { cls := .type "enumerate", data := .fields #[.none, .bool false, .ref s.heap.objs.size, rawInt 0, .none, .none] }) rfl
    rw [hz] at this; exact this
  exact ⟨⟨_, he, rfl⟩, h _ he ⟨_, Heap.get?_push_of_some _ (Heap.get?_push_size _ rfl), rfl, rfl⟩ fun b o x => Heap.get?_push_of_some _ (Heap.get?_push_of_some _ x)⟩
end
/-- the tuple at a, each item in a new pair -/
def IteT (K : PySem.W.Frag) (a : Addr) : It :=
  ⟨fun i H => ∃ (xs : List V) (x : V), SqT K H a xs ∧ xs[i]? = some x, fun i H v H' => ∃ T x, v = .ref T ∧ H T = none ∧ H' = upd H T (.tup [.int (i : Nat), x]) ∧ ∀ xs, SqT K H a xs → xs[i]? = some x, fun i H => ∃ xs : List V, SqT K H a xs ∧ xs.length = i⟩
theorem turn_enumT {P : Program} {w : World} {K : PySem.W.Frag} {elts : List Expr} {kk : Nat} {tpos : Pos} (a e it : Addr) :
    Turn P w K (.Tuple elts kk tpos) (IteT K a) [e, it] e (fun i h => (∃ old, IsEnum h e it ((i : Nat) : Int) old) ∧ h.IsTupleIter it a i ∧ e ≠ it ∧ a ≠ it ∧ a ≠ e) where
  mem := by simp
  obj := fun i h st b hb => by
    obtain ⟨⟨old, he⟩, ⟨o, ho, hc, hd⟩, _⟩ := st
    have e' : b = e ∨ b = it := by simpa using hb
    rcases e' with z | z
    · rw [z]; exact ⟨_, he, fun v q => nomatch q⟩
    · rw [z]; exact ⟨o, ho, fun v q => by rw [hd] at q; cases q⟩
  keep := fun i h h' st k => let ⟨⟨old, he⟩, hi, hne⟩ := st; ⟨⟨old, k e (by simp) _ he⟩, hi.at fun o q => k it (by simp) o q, hne⟩
  item := by
    intro X hP hw hK hc i pins s σ H E I hf st hg
    subst hP hw hK
    obtain ⟨⟨old, he⟩, hit, hne, ha1, ha2⟩ := st
    obtain ⟨xs, x, hq, hx⟩ := hg
    obtain ⟨its, rv, p, hz⟩ := I.tuple hq
    obtain ⟨u, hu, ru⟩ := rv.get hx
    have hel : e < s.heap.objs.size := Heap.lt_size he
    have hil : it < s.heap.objs.size := by obtain ⟨_, q, _⟩ := hit; exact Heap.lt_size q
    have hlt : i < its.toArray.size := by
      have := (List.getElem?_eq_some_iff.mp hu).1
      simpa using this
    have tup : s.heap.IsTuple a its.toArray := p
    refine wpAny_pyNext_enum_itemD (Draws.tuple (A := X.A.in1) (I.ok.hd hc) it a ha1 its.toArray) he ⟨hit, tup⟩ hlt hne (by simp [hne, Ne.symm ha2]) fun u' h' tk hu' ho st' hT hsz hk => ?_
    obtain ⟨hit', _⟩ := st'
    have eu : u' = u := by
      have h1 : its[i]? = some u' := by simpa using hu'
      rw [hu] at h1
      exact (Option.some.inj h1).symm
    subst eu
    refine ⟨_, rfl, wpAny_letOwnedTupleGo_enum (s := { s with heap := h', toks := tk + 1 }) ho fun h'' he' sb => ?_⟩
    have hT2 : h''.get? s.heap.objs.size = some { cls := .type "tuple", data := .seq #[.int i tk, u'] } := (sb.2 _ (Nat.ne_of_gt hel)).trans hT
    have new : ObjOk X.prog X.w (upd H s.heap.objs.size (.tup [.int (i : Nat), x])) h'' s.heap.objs.size (.tup [.int (i : Nat), x]) :=
      ⟨by show 2 ≤ sizeLine; decide, [.int i tk, u'], .cons ⟨_, rfl⟩ (.cons ru .nil), ⟨_, hT2, rfl, _, rfl⟩⟩
    have I1 : Inv X pins σ (upd H s.heap.objs.size (.tup [.int (i : Nat), x])) { s with heap := h'', toks := tk + 1 } :=
      I.turnedNew (ch := [e, it]) (fun b ob hb q => (sb.2 b (fun z => hb (by simp [z]))).trans (hk b ob (fun z => hb (by simp [z])) (fun z => hb (by simp [z])) q)) hf (Nat.le_refl _) new
    refine ⟨.ref s.heap.objs.size, _, I1, rfl, ⟨_, x, rfl, I.hok.fresh (Nat.le_refl _), rfl, fun ys hy => by rw [I.tuple_inj hy hq]; exact hx⟩, ⟨⟨u', ?_⟩, hit'.at fun o q => (sb.2 it (Ne.symm hne)).trans q, hne, ha1, ha2⟩, fun b hb => ?_⟩
    · have e1 : ((i + 1 : Nat) : Int) = (i : Int) + 1 := by omega
      rw [e1]; exact he'
    · have hb' : b < s.heap.objs.size := by
        have e' : b = e ∨ b = it := by simpa using hb
        rcases e' with z | z
        · rw [z]; exact hel
        · rw [z]; exact hil
      rw [upd_ne (Nat.ne_of_lt hb')]
      exact (hf b hb).1
  done := by
    intro X hP hw hK hc i pins s σ H E I hf st hg
    subst hP hw hK
    obtain ⟨⟨old, he⟩, hit, hne, ha1, ha2⟩ := st
    obtain ⟨xs, hq, hx⟩ := hg
    obtain ⟨its, rv, p, hz⟩ := I.tuple hq
    obtain ⟨f0, f1, f2, f3, f4, f5⟩ := hf it (by simp)
    have hl := rv.length
    have tup : s.heap.IsTuple a its.toArray := p
    have en : i = its.toArray.size := by simp; omega
    subst en
    exact wpAny_pyNext_enum_endD (Draws.tuple (A := X.A.in1) (I.ok.hd hc) it a ha1 its.toArray) he ⟨hit, tup⟩ fun h' eb => ⟨rfl, I.turned (t' := s.toks) (fun b o hb q => eb b o hb q) f0 f1 f3 f4 f5⟩
  self := fun A i s Q E st h => let ⟨⟨_, he⟩, _⟩ := st; wpAny_pyIter_enum he h
section
variable {X : Cx} {W : WX} {a b c : Expr} {pos : Pos} {m n : M Vl}
theorem pi_enumA {e : Expr} {ta : TA} {p pos tpos : Pos} {elts : List Expr} {kk : Nat} (hg : Gl X "enumerate") (hm : X.mg "enumerate" = none) (ha : PA X [e] ta) (hs : starEach [e] X.env = [(false, eval e X.env)]) :
    PI X (.Tuple elts kk tpos) (.Call (.Name "enumerate" p) [e] [] pos) (fun σ H R => ta σ H fun vs H1 => ∃ a xs, vs = [.ref a] ∧ ((SqL X.K H1 a xs ∧ R (Ite X.K a) H1) ∨ (SqT X.K H1 a xs ∧ R (IteT X.K a) H1))) := by
  refine ⟨fun pins s σ H R I h => ?_⟩
  refine Call_ (ld_blt I hg hm boot_enumerate (PyProof.Rows.callWith_type1 (thn (ha.run pos pins s σ H _ I h) fun us s1 ⟨vs, H1, I1, r1, q1⟩ => ?_) hs rfl))
  obtain ⟨a, xs, ex, q1⟩ := q1
  subst ex
  cases r1 with
  | cons r rr =>
    cases rr
    cases r
    have fresh2 : ∀ b ∈ [s1.heap.objs.size + 1, s1.heap.objs.size], FpOk X pins H1 b := fun b hb => by
      have e' : b = s1.heap.objs.size + 1 ∨ b = s1.heap.objs.size := by simpa using hb
      have hle : s1.heap.objs.size ≤ b := by
        rcases e' with z | z
        · rw [z]; exact Nat.le_add_right _ _
        · rw [z]; exact Nat.le_refl _
      exact I1.fpOk hle (I1.hok.fresh hle)
    rcases q1 with ⟨hq, q⟩ | ⟨hq, q⟩
    · obtain ⟨its, rv, p', hz⟩ := I1.list hq
      refine call_enumerate_list p'.isList fun h' he hit hsz hk => wpAny_pyIter_enum he ?_
      exact ⟨s1.heap.objs.size + 1, [s1.heap.objs.size + 1, s1.heap.objs.size], _, _, H1, rfl, I1.kept (t' := s1.toks) hk, turn_enum a (s1.heap.objs.size + 1) s1.heap.objs.size, ⟨⟨.none, he⟩, hit, Nat.succ_ne_self _⟩, fresh2, q⟩
    · obtain ⟨its, rv, p', hz⟩ := I1.tuple hq
      have hlt : a < s1.heap.objs.size := by obtain ⟨o, e, _⟩ := p'; exact Heap.lt_size e
      refine call_enumT (show s1.heap.IsTuple a its.toArray from p') fun h' he hit hk => wpAny_pyIter_enum he ?_
      exact ⟨s1.heap.objs.size + 1, [s1.heap.objs.size + 1, s1.heap.objs.size], _, _, H1, rfl, I1.kept (t' := s1.toks) hk, turn_enumT a (s1.heap.objs.size + 1) s1.heap.objs.size, ⟨⟨.none, he⟩, hit, Nat.succ_ne_self _, Nat.ne_of_lt hlt, Nat.ne_of_lt (Nat.lt_succ_of_lt hlt)⟩, fresh2, q⟩

/-! ### the judgements of what is walked -/
theorem items_d {x : Vl} {l : List D} (e : x.items = some l) : x.d = some (.tup l) ∨ x.d = some (.lst l) := by
  cases x with
  | v d => cases d <;> simp [Vl.items, D.items] at e <;> subst e <;> simp [Vl.d]
  | o m => simp [Vl.items] at e; subst e; exact .inr rfl
  | oo m => simp [Vl.items] at e
  | dc _ => simp [Vl.items] at e
  | rg _ _ => simp [Vl.items] at e
theorem di_l {tg : Expr} (h : DE X W a m) : DI X W tg a (iL m) := by
  refine ⟨PIm (pi_any h.p) fun σ H R q => ?_⟩
  refine TR.bind (k := fun x e => lift x.items e) q fun S e fp S1 H1 e1 fp1 fx x v wd ext wd1 sep1 rx p => ?_
  cases hx : x.items with
  | none => rw [hx] at p; exact p.elim
  | some l =>
    rw [hx] at p
    rcases items_d hx with hd | hd
    · obtain ⟨ext1, wd1', rd⟩ := froze_wait ext wd1 sep1 hd rx
      unfold rep at rd
      obtain ⟨a0, vs, e0, h1, h2⟩ := rd
      exact ⟨a0, e0, .inr ⟨⟨vs, h1.sq⟩, p _ H1 fp1 [] _ ext1 wd1' wd1'.sep ⟨rfl, wk_tup h1.sq h2⟩⟩⟩
    · obtain ⟨ext1, wd1', rd⟩ := froze_wait ext wd1 sep1 hd rx
      unfold rep at rd
      obtain ⟨a0, vs, e0, h1, h2⟩ := rd
      exact ⟨a0, e0, .inl ⟨⟨vs, h1.sq⟩, p _ H1 fp1 [] _ ext1 wd1' wd1'.sep ⟨rfl, wk_list h1 h2⟩⟩⟩
theorem wk_rng {K : PySem.W.Frag} {S : SP'} {H : Hp} {lo : Int} {n : Nat} : Wk K S H (Itr lo n) (rng lo n) := fun S' H' st => by
  refine ⟨fun i d e => ?_, ?_⟩
  · unfold rng at e
    rw [List.getElem?_map] at e
    cases q : (List.range n)[i]? with
    | none => rw [q] at e; cases e
    | some k =>
      rw [q] at e
      have hk := List.getElem?_eq_some_iff.mp q
      obtain ⟨h1, h2⟩ := hk
      simp at h1 h2
      subst h2
      cases e
      exact ⟨h1, fun x H3 y => by obtain ⟨y1, y2⟩ := y; subst y1 y2; exact ⟨fun _ _ h => h, (rep_int (K := K) (S := S') (H := H3) _)⟩⟩
  · show n ≤ (rng lo n).length
    unfold rng
    simp
theorem di_r1 {tg : Expr} {p : Pos} (ha : DE X W a m) (hm : X.mg "range" = none) (hg : Gl X "range" := by rfl) (hs : starEach [a] X.env = [(false, eval a X.env)] := by rfl) (he : starEach (a :: []) X.env = (false, eval a X.env) :: starEach [] X.env := by rfl) : DI X W tg (.Call (.Name "range" p) [a] [] pos) (iR1 m) := by
  refine ⟨PIm (pi_range1 hg hm (pa_cons ha.p pa_nil he) hs) fun σ H R q => ?_⟩
  refine TR.bind (k := fun x e => match x with | .v (.int j) => if smallI j then .ok (rng 0 j.toNat) e else .bad | _ => .bad) q fun S e fp S1 H1 e1 fp1 fx x v wd ext wd1 sep1 rx p => ?_
  split at p
  · rename_i j
    split at p
    · rename_i hj
      have hx := rx.2
      unfold rep at hx
      obtain ⟨hj1, hj2⟩ := small_of hj
      exact ⟨j, by rw [hx], by omega, by omega, p S1 H1 fp1 [] _ ext.drop wd1 wd1.sep ⟨rfl, wk_rng⟩⟩
    · exact p.elim
  · exact p.elim
theorem di_r2 {tg : Expr} {p : Pos} (ha : DE X W a m) (hb : DE X W b n) (hm : X.mg "range" = none) (hg : Gl X "range" := by rfl) (hs : starEach [a, b] X.env = [(false, eval a X.env), (false, eval b X.env)] := by rfl) (hs2 : starEach [b] X.env = [(false, eval b X.env)] := by rfl)
    (he : starEach (a :: [b]) X.env = (false, eval a X.env) :: starEach [b] X.env := by rfl) (he2 : starEach (b :: []) X.env = (false, eval b X.env) :: starEach [] X.env := by rfl) : DI X W tg (.Call (.Name "range" p) [a, b] [] pos) (iR2 m n) := by
  refine ⟨PIm (pi_range2 hg hm (pa_cons ha.p (pa_cons hb.p pa_nil he2) he) hs hs2) fun σ H R q => ?_⟩
  refine TR.bind (k := fun x e => (n e).then fun y e => match x, y with | .v (.int i), .v (.int j) => if smallI i && smallI j then .ok (rng i (j - i).toNat) e else .bad | _, _ => .bad) q fun S e fp S1 H1 e1 fp1 fx x v wd ext wd1 sep1 rx p => ?_
  refine TR.next (k := fun y e => match x, y with | .v (.int i), .v (.int j) => if smallI i && smallI j then .ok (rng i (j - i).toNat) e else .bad | _, _ => .bad) wd1 ext sep1 p fun S2 H2 e2 fp2 fy y u ext2 st keep wd2 sep2 ry p2 => ?_
  split at p2
  · rename_i i j
    split at p2
    · rename_i hj
      have hx := rx.2
      have hy := ry.2
      unfold rep at hx hy
      simp only [Bool.and_eq_true] at hj
      obtain ⟨hj1, hj2⟩ := small_of hj.1
      obtain ⟨hj3, hj4⟩ := small_of hj.2
      exact ⟨i, j, by rw [hx, hy], ⟨by omega, by omega, by omega, by omega⟩, p2 S2 H2 fp2 [] _ ext2.drop.drop wd2 wd2.sep ⟨rfl, wk_rng⟩⟩
    · exact p2.elim
  · exact p2.elim
theorem enum_get : ∀ (l : List D) (k i : Nat) (d : D), (enumD k l)[i]? = some d → ∃ x, l[i]? = some x ∧ d = .tup [.int ((k + i : Nat) : Int), x]
  | [], _, _, _, e => by simp [enumD] at e
  | x :: l, k, 0, d, e => by simp [enumD] at e; exact ⟨x, rfl, e.symm⟩
  | x :: l, k, i + 1, d, e => by
    obtain ⟨y, h1, h2⟩ := enum_get l (k + 1) i d (by simpa [enumD] using e)
    exact ⟨y, by simpa using h1, by rw [h2]; congr 3; omega⟩
theorem enum_len : ∀ (l : List D) (k : Nat), (enumD k l).length = l.length
  | [], _ => rfl
  | x :: l, k => by simp [enumD, enum_len l]
theorem pair_rep {K : PySem.W.Frag} {S : SP'} {H : Hp} {T : Addr} {d1 d2 : D} {x y : V} (h1 : rep K S H d1 x) (h2 : rep K S H d2 y) (hT : H T = none) :
    (∀ a o, H a = some o → upd H T (.tup [x, y]) a = some o) ∧ RY K true S (upd H T (.tup [x, y])) (.tup [d1, d2]) (.ref T) := by
  have k : ∀ a o, H a = some o → upd H T (.tup [x, y]) a = some o := fun a o h => by rw [upd_ne (ne_of_none h hT)]; exact h
  exact ⟨k, [d1, d2], T, [x, y], rfl, rfl, .inl (.inl upd_same), reps.stb (Stb.grow k) _ _ (reps.cons h1 (reps.cons h2 reps.nil))⟩
theorem wk_enumL {K : PySem.W.Frag} {S : SP'} {H : Hp} {a : Addr} {vs : List V} {l : List D} (h : Ls K S H a vs) (r : reps K S H l vs) : Wk K S H (Ite K a) (enumD 0 l) true := fun S' H' st => by
  have h' : SqL K H' a vs := (h.stb st).sq
  refine ⟨fun i d e => ?_, ⟨vs, h', by rw [enum_len, r.length]; exact Nat.le_refl _⟩⟩
  obtain ⟨x, hx, rfl⟩ := enum_get l 0 i d e
  obtain ⟨v, hv, rv⟩ := r.get hx
  refine ⟨⟨vs, v, h', hv⟩, fun z H3 y => ?_⟩
  obtain ⟨T, w, e1, e2, e3, e4⟩ := y
  have := e4 vs h'
  rw [hv] at this
  cases this
  subst e1 e3
  rw [Nat.zero_add]
  exact pair_rep (rep_int _) (rep.stb st _ _ rv) e2
theorem wk_enumT {K : PySem.W.Frag} {S : SP'} {H : Hp} {a : Addr} {vs : List V} {l : List D} (h : SqT K H a vs) (r : reps K S H l vs) : Wk K S H (IteT K a) (enumD 0 l) true := fun S' H' st => by
  have h' : SqT K H' a vs := SqT.stb st h
  refine ⟨fun i d e => ?_, ⟨vs, h', by rw [enum_len, r.length]⟩⟩
  obtain ⟨x, hx, rfl⟩ := enum_get l 0 i d e
  obtain ⟨v, hv, rv⟩ := r.get hx
  refine ⟨⟨vs, v, h', hv⟩, fun z H3 y => ?_⟩
  obtain ⟨T, w, e1, e2, e3, e4⟩ := y
  have := e4 vs h'
  rw [hv] at this
  cases this
  subst e1 e3
  rw [Nat.zero_add]
  exact pair_rep (rep_int _) (rep.stb st _ _ rv) e2
theorem di_enum {elts : List Expr} {kk : Nat} {tpos p : Pos} (ha : DE X W a m) (hm : X.mg "enumerate" = none) (hg : Gl X "enumerate" := by rfl) (hs : starEach [a] X.env = [(false, eval a X.env)] := by rfl) (he : starEach (a :: []) X.env = (false, eval a X.env) :: starEach [] X.env := by rfl) :
    DI X W (.Tuple elts kk tpos) (.Call (.Name "enumerate" p) [a] [] pos) (iEnum m) true := by
  refine ⟨PIm (pi_enumA hg hm (pa_cons ha.p pa_nil he) hs) fun σ H R q => ?_⟩
  refine TR.bind (k := fun x e => lift (x.items.map (enumD 0)) e) q fun S e fp S1 H1 e1 fp1 fx x v wd ext wd1 sep1 rx p => ?_
  cases hx : x.items with
  | none => rw [hx] at p; exact p.elim
  | some l =>
    rw [hx] at p
    rcases items_d hx with hd | hd
    · obtain ⟨ext1, wd1', rd⟩ := froze_wait ext wd1 sep1 hd rx
      unfold rep at rd
      obtain ⟨a0, vs, e0, h1, h2⟩ := rd
      exact ⟨a0, vs, by rw [e0], .inr ⟨h1.sq, p _ H1 fp1 [] _ ext1 wd1' wd1'.sep ⟨rfl, wk_enumT h1.sq h2⟩⟩⟩
    · obtain ⟨ext1, wd1', rd⟩ := froze_wait ext wd1 sep1 hd rx
      unfold rep at rd
      obtain ⟨a0, vs, e0, h1, h2⟩ := rd
      exact ⟨a0, vs, by rw [e0], .inl ⟨h1.sq, p _ H1 fp1 [] _ ext1 wd1' wd1'.sep ⟨rfl, wk_enumL h1 h2⟩⟩⟩
theorem zip_get : ∀ (l m : List D) (i : Nat) (d : D), (zipD l m)[i]? = some d → ∃ x y, l[i]? = some x ∧ m[i]? = some y ∧ d = .tup [x, y]
  | [], _, _, _, e => by simp [zipD] at e
  | _ :: _, [], _, _, e => by simp [zipD] at e
  | x :: l, y :: m, 0, d, e => by simp [zipD] at e; exact ⟨x, y, rfl, rfl, e.symm⟩
  | x :: l, y :: m, i + 1, d, e => by simpa using zip_get l m i d (by simpa [zipD] using e)
theorem zip_len : ∀ (l m : List D), l.length ≤ (zipD l m).length ∨ m.length ≤ (zipD l m).length
  | [], _ => .inl (Nat.zero_le _)
  | _ :: _, [] => .inr (Nat.zero_le _)
  | x :: l, y :: m => by
    simp only [zipD, List.length_cons]
    rcases zip_len l m with h | h
    · exact .inl (by omega)
    · exact .inr (by omega)
theorem wk_zipL {K : PySem.W.Frag} {S : SP'} {H : Hp} {a b : Addr} {vs ws : List V} {l m : List D} (h : Ls K S H a vs) (h2 : Ls K S H b ws) (r : reps K S H l vs) (r2 : reps K S H m ws) : Wk K S H (Itz K a b) (zipD l m) true := fun S' H' st => by
  have h' : SqL K H' a vs := (h.stb st).sq
  have h2' : SqL K H' b ws := (h2.stb st).sq
  refine ⟨fun i d e => ?_, ⟨vs, ws, h', h2', by rw [← r.length, ← r2.length]; exact zip_len l m⟩⟩
  obtain ⟨x, y, hx, hy, rfl⟩ := zip_get l m i d e
  obtain ⟨v, hv, rv⟩ := r.get hx
  obtain ⟨w, hw, rw'⟩ := r2.get hy
  refine ⟨⟨vs, ws, v, w, h', h2', hv, hw⟩, fun z H3 y => ?_⟩
  obtain ⟨T, x1, y1, e1, e2, e3, e4, e5⟩ := y
  have q1 := e4 vs h'
  have q2 := e5 ws h2'
  rw [hv] at q1
  rw [hw] at q2
  cases q1
  cases q2
  subst e1 e3
  exact pair_rep (rep.stb st _ _ rv) (rep.stb st _ _ rw') e2
theorem wk_zipT {K : PySem.W.Frag} {S : SP'} {H : Hp} {a b : Addr} {vs ws : List V} {l m : List D} (h : SqT K H a vs) (h2 : SqT K H b ws) (r : reps K S H l vs) (r2 : reps K S H m ws) : Wk K S H (RZ.ItzT K a b) (zipD l m) true := fun S' H' st => by
  have h' : SqT K H' a vs := SqT.stb st h
  have h2' : SqT K H' b ws := SqT.stb st h2
  refine ⟨fun i d e => ?_, ⟨vs, ws, h', h2', by rw [← r.length, ← r2.length]; exact zip_len l m⟩⟩
  obtain ⟨x, y, hx, hy, rfl⟩ := zip_get l m i d e
  obtain ⟨v, hv, rv⟩ := r.get hx
  obtain ⟨w, hw, rw'⟩ := r2.get hy
  refine ⟨⟨vs, ws, v, w, h', h2', hv, hw⟩, fun z H3 y => ?_⟩
  obtain ⟨T, x1, y1, e1, e2, e3, e4, e5⟩ := y
  have q1 := e4 vs h'
  have q2 := e5 ws h2'
  rw [hv] at q1
  rw [hw] at q2
  cases q1
  cases q2
  subst e1 e3
  exact pair_rep (rep.stb st _ _ rv) (rep.stb st _ _ rw') e2

/-! ### targets -/
/-- lent arguments keep their places -/
def bOk (B : List (Nat × Addr)) (σ : L2.St) : Prop := ∀ p ∈ B, σ[p.1]? = some (some (.ref p.2))
/-- but for these places the names hold what they held -/
def Out1 (ts : List Nat) (σ σ' : L2.St) : Prop := σ'.length = σ.length ∧ ∀ j, j ∉ ts → σ'[j]? = σ[j]?
theorem Out1.refl (ts : List Nat) (σ : L2.St) : Out1 ts σ σ := ⟨rfl, fun _ _ => rfl⟩
theorem Out1.trans {t1 t2 : List Nat} {σ σ1 σ2 : L2.St} (x : Out1 t1 σ σ1) (y : Out1 t2 σ1 σ2) : Out1 (t1 ++ t2) σ σ2 :=
  ⟨y.1.trans x.1, fun j h => by rw [List.mem_append, not_or] at h; exact (y.2 j h.2).trans (x.2 j h.1)⟩
theorem bOk.out {B : List (Nat × Addr)} {ts : List Nat} {σ σ' : L2.St} (h : bOk B σ) (o : Out1 ts σ σ') (hB : ∀ p ∈ B, p.1 ∉ ts) : bOk B σ' := fun p hp => (o.2 p.1 (hB p hp)).trans (h p hp)
def TGd (K : PySem.W.Frag) (ts : List Nat) (g : D → En → Option En) (Y : Bool := false) : TG := fun v σ H Q => ∃ S e fp d e', Wd K S H e fp σ ∧ RY K Y S H d v ∧ g d e = some e' ∧ ∀ σ' S' H' fp', Ext S H fp S' H' fp' → Wd K S' H' e' fp' σ' → Out1 ts σ σ' → Q σ' H'
structure DG (X : Cx) (ts : List Nat) (tg : Expr) (g : D → En → Option En) (Y : Bool := false) : Prop where
  p : PG X tg (TGd X.K ts g Y)
structure DGs (X : Cx) (ts : List Nat) (tgs : List Expr) (gs' : List (D → En → Option En)) : Prop where
  p : PGs X tgs (fun vs σ H Q => ∃ S e fp ds e', Wd X.K S H e fp σ ∧ reps X.K S H ds vs ∧ gs gs' ds e = some e' ∧ ∀ σ' S' H' fp', Ext S H fp S' H' fp' → Wd X.K S' H' e' fp' σ' → Out1 ts σ σ' → Q σ' H')
theorem PGm {tg : Expr} {t t' : TG} (h : PG X tg t) (k : ∀ v σ H Q, t' v σ H Q → t v σ H Q) : PG X tg t' := ⟨fun pins s σ H v u Q I r q => h.run pins s σ H v u Q I r (k v σ H Q q)⟩
theorem PGsm {tg : List Expr} {t t' : TGs} (h : PGs X tg t) (k : ∀ v σ H Q, t' v σ H Q → t v σ H Q) : PGs X tg t' := ⟨fun pins s σ H v u Q I r q => h.run pins s σ H v u Q I r (k v σ H Q q)⟩
/-- a place stored -/
theorem Wd.put {K : PySem.W.Frag} {S : SP'} {H : Hp} {e : En} {fp fx : List Addr} {σ : L2.St} {i : Nat} {x : Vl} {v : V} (wd : Wd K S H e fp σ) (sep : Sep S H (fx ++ fp)) (r : repV K S H x fx v) : ∃ fp', Wd K S H (e.set i (some x)) fp' (σ.set i (some v)) ∧ ∀ a ∈ fp', a ∈ fx ++ fp := by
  by_cases hi : i < e.length
  · obtain ⟨f1, f2, f3, ef, k⟩ := wd.env.put hi
    subst ef
    have nd := sep.nd
    have hsub : ∀ a ∈ f1 ++ (fx ++ f3), a ∈ fx ++ (f1 ++ (f2 ++ f3)) := fun a q => by
      simp only [List.mem_append] at q ⊢
      rcases q with q | q | q
      · exact .inr (.inl q)
      · exact .inl q
      · exact .inr (.inr (.inr q))
    refine ⟨f1 ++ (fx ++ f3), ⟨k S H (some x) fx (some v) (Stb.refl S H) (fun _ _ => rfl) ⟨v, rfl, r⟩, ⟨?_, fun a q => sep.ns a (hsub a q), fun a q => sep.ow a (hsub a q)⟩, wd.dom⟩, hsub⟩
    simp only [List.nodup_append, List.mem_append] at nd ⊢
    obtain ⟨n1, ⟨n2, ⟨n3, n4, n5⟩, n6⟩, n7⟩ := nd
    refine ⟨n2, ⟨n1, n4, fun a p b q => n7 a p b (.inr (.inr q))⟩, fun a p b q => ?_⟩
    rcases q with q | q
    · exact fun z => n7 b q a (.inl p) z.symm
    · exact n6 a p b (.inr q)
  · have h1 : e.set i (some x) = e := List.set_eq_of_length_le (by omega)
    have h2 : σ.set i (some v) = σ := List.set_eq_of_length_le (by rw [← wd.env.len]; omega)
    rw [h1, h2]
    exact ⟨fp, wd, fun a q => List.mem_append_right _ q⟩
theorem out_set (σ : L2.St) (i : Nat) (w : Option V) : Out1 [i] σ (σ.set i w) := ⟨List.length_set, fun j h => by
  simp at h
  exact List.getElem?_set_ne (Ne.symm h)⟩
theorem dg_n {i : Nat} {x : Str} (hN : X.N.Nodup) (hi : X.N[i]? = some x := by rfl) (hx : Loc X.env.scope x := by first | exact .inl rfl | exact .inr rfl) (hf : X.fn x = true ∨ X.env.scope.names.lookup x = some .local := by first | exact .inl rfl | exact .inr rfl | assumption) :
    DG X [i] (.Name x pos) (gN i) := ⟨PGm (pg_name hN hi hx hf) fun v σ H Q ⟨S, e, fp, d, e', wd, r, h, q⟩ => by
  cases h
  obtain ⟨fp', wd', sub⟩ := wd.put (fx := []) (x := .v d) (i := i) (by simpa using wd.sep) ⟨rfl, r⟩
  exact q _ S H fp' ((Ext.refl S H fp).sub (by simpa using sub)) wd' (out_set _ _ _)⟩
theorem dgs_nil : DGs X [] [] [] := ⟨PGsm pgs_nil fun v σ H Q ⟨S, e, fp, ds, e', wd, r, h, q⟩ => by
  cases ds with
  | nil =>
    unfold reps at r
    cases h
    exact ⟨r, q σ S H fp (Ext.refl S H fp) wd (Out1.refl _ _)⟩
  | cons _ _ => cases h⟩
theorem dgs_cons {t1 t2 : List Nat} {g : D → En → Option En} {gr : List (D → En → Option En)} {es : List Expr} (h1 : DG X t1 a g) (h2 : DGs X t2 es gr) (hs : (assignEach (a :: es) X.env).map (·.2) = assign a X.env :: (assignEach es X.env).map (·.2) := by rfl) : DGs X (t1 ++ t2) (a :: es) (g :: gr) :=
  ⟨PGsm (pgs_cons h1.p h2.p hs) fun v σ H Q ⟨S, e, fp, ds, e', wd, r, h, q⟩ => by
    cases ds with
    | nil => cases h
    | cons d ds =>
      unfold reps at r
      obtain ⟨v0, r0, e0, r1, r2⟩ := r
      subst e0
      simp only [gs] at h
      cases hg : g d e with
      | none => rw [hg] at h; cases h
      | some e1 =>
        rw [hg] at h
        exact ⟨v0, r0, rfl, S, e, fp, d, e1, wd, r1, hg, fun σ' S' H' fp' x' wd' o' => ⟨S', e1, fp', ds, e', wd', reps.stb (x'.stb wd.sep) _ _ r2, h, fun σ2 S2 H2 fp2 x2 wd2 o2 => q σ2 S2 H2 fp2 (x'.trans x2) wd2 (o'.trans o2)⟩⟩⟩
theorem gs_len : ∀ {gr : List (D → En → Option En)} {l : List D} {e e' : En}, gs gr l e = some e' → l.length = gr.length
  | [], [], _, _, _ => rfl
  | [], _ :: _, _, _, h => by cases h
  | _ :: _, [], _, _, h => by cases h
  | g :: gr, d :: l, e, e', h => by
    simp only [gs] at h
    cases hg : g d e with
    | none => rw [hg] at h; cases h
    | some e1 => rw [hg] at h; simp [gs_len h]
theorem dg_t {Y : Bool} {ts : List Nat} {gr : List (D → En → Option En)} {es : List Expr} {k : Nat} (hc : X.calm = true) (h : DGs X ts es gr) (hl : gr.length = (assignEach es X.env).length := by rfl) (hst : (assignEach es X.env).findIdx? (·.1) = none := by rfl) :
    DG X ts (.Tuple es k pos) (gT gr) Y := ⟨PGm (pg_tup hc h.p rfl hst) fun v σ H Q ⟨S, e, fp, d, e', wd, r, h, q⟩ => by
  unfold gT at h
  cases d with
  | tup l =>
    dsimp only at h
    have r' : ∃ a vs, v = .ref a ∧ SqT X.K H a vs ∧ reps X.K S H l vs := by
      cases Y with
      | false =>
        have r2 : rep X.K S H (.tup l) v := r
        unfold rep at r2
        obtain ⟨a, vs, e1, e2, e3⟩ := r2
        exact ⟨a, vs, e1, e2.sq, e3⟩
      | true =>
        obtain ⟨ds, a, vs, e0, e1, e2, e3⟩ := r
        cases e0
        exact ⟨a, vs, e1, e2, e3⟩
    obtain ⟨a0, vs, e0, h1, h2⟩ := r'
    exact ⟨a0, vs, e0, h1, by rw [← h2.length, gs_len h, hl], S, e, fp, l, e', wd, h2, h, q⟩
  | _ => cases h⟩
end
end Fx
end

section
set_option Elab.async false
set_option linter.all false
set_option maxRecDepth 100000
set_option maxHeartbeats 4000000
/-! Wi: comprehensions. -/
namespace Fx
open PySem PySem.Spec PyProof.Rows L2

/-- nothing is raised -/
abbrev W0 : WX := fun _ _ _ _ => False
theorem wipe_get (σ : L2.St) : ∀ (vs : List Nat) (j : Nat), (wipe σ vs)[j]? = if j ∈ vs then (if j < σ.length then some none else none) else σ[j]?
  | [], j => by simp [wipe]
  | v :: vs, j => by
    unfold wipe
    by_cases h : v = j
    · subst h
      by_cases hl : v < σ.length
      · rw [List.getElem?_set_self (by rw [wipe_length]; exact hl)]; simp [hl]
      · rw [List.getElem?_eq_none (by rw [List.length_set, wipe_length]; omega)]; simp [hl]
    · rw [List.getElem?_set_ne h, wipe_get σ vs j]
      simp [Ne.symm h]
theorem wipe_out {ts vs : List Nat} {σ σ2 : L2.St} (o : Out1 ts σ σ2) (h : ∀ i ∈ ts, i ∈ vs) : wipe σ2 vs = wipe σ vs := by
  apply List.ext_getElem?
  intro j
  rw [wipe_get, wipe_get, o.1]
  by_cases hj : j ∈ vs
  · simp [hj]
  · simp only [hj, if_false]
    exact o.2 j fun z => hj (h j z)
theorem wipe_wipe {vs ws : List Nat} {σ : L2.St} (h : ∀ i ∈ ws, i ∈ vs) : wipe (wipe σ ws) vs = wipe σ vs := wipe_out (ts := ws) ⟨wipe_length _ _, fun j hj => by rw [wipe_get]; simp [hj]⟩ h
/-- the names of a block are forgotten -/
theorem Wd.hide {K : PySem.W.Frag} {S : SP'} {H : Hp} {σ : L2.St} : ∀ {vs : List Nat} {e : En} {fp : List Addr}, Wd K S H e fp σ → ∃ fp', Wd K S H (Fx.hide e vs) fp' (wipe σ vs) ∧ ∀ a ∈ fp', a ∈ fp
  | [], e, fp, wd => ⟨fp, wd, fun _ h => h⟩
  | i :: r, e, fp, wd => by
    obtain ⟨fp1, wd1, sub1⟩ := Wd.hide (vs := r) wd
    unfold Fx.hide L2.wipe
    by_cases hi : i < (Fx.hide e r).length
    · obtain ⟨f1, f2, f3, ef, k⟩ := wd1.env.put hi
      subst ef
      have hsub : ∀ a ∈ f1 ++ f3, a ∈ f1 ++ (f2 ++ f3) := fun a q => by
        simp only [List.mem_append] at q ⊢
        rcases q with q | q
        · exact .inl q
        · exact .inr (.inr q)
      have nd := wd1.sep.nd
      refine ⟨f1 ++ f3, ⟨by simpa using k S H none [] none (Stb.refl S H) (fun _ _ => rfl) rfl, ⟨?_, fun a q => wd1.sep.ns a (hsub a q), fun a q => wd1.sep.ow a (hsub a q)⟩, wd1.dom⟩, fun a q => sub1 a (hsub a q)⟩
      simp only [List.nodup_append, List.mem_append] at nd ⊢
      exact ⟨nd.1, nd.2.1.2.1, fun a p b q => nd.2.2 a p b (.inr q)⟩
    · have h1 : (Fx.hide e r).set i none = Fx.hide e r := List.set_eq_of_length_le (by omega)
      have h2 : (L2.wipe σ r).set i none = L2.wipe σ r := List.set_eq_of_length_le (by rw [← wd1.env.len]; omega)
      rw [h1, h2]
      exact ⟨fp1, wd1, sub1⟩
def back (old s : L2.St) : List Nat → L2.St
  | [] => s
  | i :: r => (back old s r).set i (old[i]?.join)
theorem back_len (old s : L2.St) : ∀ vs, (back old s vs).length = s.length
  | [] => rfl
  | i :: r => by unfold back; rw [List.length_set, back_len old s r]
theorem back_get (old s : L2.St) : ∀ (vs : List Nat) (j : Nat), (back old s vs)[j]? = if j ∈ vs then (if j < s.length then some (old[j]?.join) else none) else s[j]?
  | [], j => by simp [back]
  | v :: vs, j => by
    unfold back
    by_cases h : v = j
    · subst h
      by_cases hl : v < s.length
      · rw [List.getElem?_set_self (by rw [back_len]; exact hl)]; simp [hl]
      · rw [List.getElem?_eq_none (by rw [List.length_set, back_len]; omega)]; simp [hl]
    · rw [List.getElem?_set_ne h, back_get old s vs j]
      simp [Ne.symm h]
theorem back_wipe (σ : L2.St) (vs : List Nat) : back σ (wipe σ vs) vs = σ := by
  apply List.ext_getElem?
  intro j
  rw [back_get, wipe_get, wipe_length]
  by_cases hj : j ∈ vs
  · simp only [hj, if_true]
    by_cases hl : j < σ.length
    · simp only [hl, if_true, List.getElem?_eq_getElem hl, Option.join_some]
    · simp only [hl, if_false]
      rw [List.getElem?_eq_none (by omega)]
  · simp [hj]
theorem Wd.unhide {K : PySem.W.Frag} {S S1 : SP'} {H H1 : Hp} {e1 : En} {fp1 : List Addr} {σ s : L2.St} (wd1 : Wd K S1 H1 e1 fp1 σ) (st : Stb S1 H1 S H) (hlen : s.length = σ.length) :
    ∀ {vs : List Nat} {e : En} {fp : List Addr}, Wd K S H e fp s → ∃ fp', Wd K S H (Fx.unhide e1 e vs) fp' (back σ s vs) ∧ ∀ a ∈ fp', a ∈ fp
  | [], e, fp, wd => ⟨fp, wd, fun _ h => h⟩
  | i :: r, e, fp, wd => by
    obtain ⟨fp2, wd2, sub2⟩ := Wd.unhide (vs := r) wd1 st hlen wd
    unfold Fx.unhide back
    by_cases hi : i < (Fx.unhide e1 e r).length
    · obtain ⟨f1, f2, f3, ef, k⟩ := wd2.env.put hi
      subst ef
      have hsub : ∀ a ∈ f1 ++ f3, a ∈ f1 ++ (f2 ++ f3) := fun a q => by
        simp only [List.mem_append] at q ⊢
        rcases q with q | q
        · exact .inl q
        · exact .inr (.inr q)
      have nd := wd2.sep.nd
      have env : envR K S H ((Fx.unhide e1 e r).set i (keepD e1[i]?)) (f1 ++ ([] ++ f3)) ((back σ s r).set i (σ[i]?.join)) := by
        refine k S H (keepD e1[i]?) [] (σ[i]?.join) (Stb.refl S H) (fun _ _ => rfl) ?_
        unfold keepD
        split
        · rename_i y hy
          split at hy
          · rename_i d he
            cases hy
            obtain ⟨v, fx, h1, h2, _⟩ := wd_at wd1 he
            exact ⟨v, by rw [h1]; rfl, rfl, rep.stb st d v h2.2⟩
          · cases hy
        · rfl
      refine ⟨f1 ++ f3, ⟨by simpa using env, ⟨?_, fun a q => wd2.sep.ns a (hsub a q), fun a q => wd2.sep.ow a (hsub a q)⟩, wd2.dom⟩, fun a q => sub2 a (hsub a q)⟩
      simp only [List.nodup_append, List.mem_append] at nd ⊢
      exact ⟨nd.1, nd.2.1.2.1, fun a p b q => nd.2.2 a p b (.inr q)⟩
    · have h1 : (Fx.unhide e1 e r).set i (keepD e1[i]?) = Fx.unhide e1 e r := List.set_eq_of_length_le (by omega)
      have h2 : (back σ s r).set i (σ[i]?.join) = back σ s r := List.set_eq_of_length_le (by rw [← wd2.env.len]; omega)
      rw [h1, h2]
      exact ⟨fp2, wd2, sub2⟩
/-- a list of one's own beside is written -/
theorem Wd.write {K : PySem.W.Frag} {S : SP'} {H : Hp} {e : En} {fp : List Addr} {σ : L2.St} {p : Addr} {vs ws : List V} (wd : Wd K S H e fp σ) (sep : Sep S H ([p] ++ fp)) (hp : H p = some (.lst vs)) : Wd K S (upd H p (.lst ws)) e fp σ ∧ Stb S H S (upd H p (.lst ws)) ∧ Sep S (upd H p (.lst ws)) ([p] ++ fp) := by
  have nS : ¬ S p := sep.ns p (by simp)
  have st : Stb S H S (upd H p (.lst ws)) := ⟨fun _ h => h, fun a o h q => by
    by_cases hb : a = p
    · subst hb; rw [hp] at h; cases h; exact absurd q nS
    · rw [upd_ne hb]; exact h⟩
  have ne : ∀ a ∈ fp, a ≠ p := fun a q z => by subst z; exact sep.apart (by simp) q
  have ow : ∀ a ∈ [p] ++ fp, ∃ o, upd H p (.lst ws) a = some o ∧ Ow o := fun a q => by
    rcases List.mem_append.mp q with q | q
    · simp at q; subst q; exact ⟨_, upd_same, trivial⟩
    · rw [upd_ne (ne a q)]; exact sep.ow a (List.mem_append_right _ q)
  refine ⟨⟨envR.stb st e fp σ (fun a q => upd_ne (ne a q)) wd.env, ⟨wd.sep.nd, wd.sep.ns, fun a q => ow a (List.mem_append_right _ q)⟩, fun a q => ?_⟩, st, ⟨sep.nd, sep.ns, ow⟩⟩
  obtain ⟨xs, h⟩ := wd.dom a q
  exact ⟨xs, by rw [upd_ne (show a ≠ p from fun z => by subst z; exact nS q)]; exact h⟩
theorem Ext.write {S S1 : SP'} {H H1 : Hp} {fp fp1 : List Addr} {p : Addr} {ws : List V} (x : Ext S H fp S1 H1 ([p] ++ fp1)) (hp : H p = none) : Ext S H fp S1 (upd H1 p (.lst ws)) ([p] ++ fp1) :=
  ⟨fun a o h q => by rw [upd_ne (ne_of_none h hp)]; exact x.keep a o h q, x.fresh, x.mono, x.sfr⟩

section
variable {Y Y1 : Bool} {X : Cx} {W : WX} {a b c : Expr} {pos : Pos} {m n : M Vl}
/-- a clause's tests -/
structure DTs (X : Cx) (ifs : List Expr) (t : M Bool) : Prop where
  p : PTs X ifs (TR X.K X.mg W0 RB t)
theorem dts_nil : DTs X [] Fx.tYes := ⟨⟨fun pins s σ H Q I ⟨S, e, fp, wd, p⟩ => pts_nil.run pins s σ H Q I (p S H fp [] true (Ext.refl S H fp) wd wd.sep ⟨rfl, rfl⟩)⟩⟩
theorem dts_one {t : M Bool} (h : DT X W0 a t) : DTs X [a] t := ⟨pts_one h.p⟩

/-- what holds between two turns of a comprehension: acc is made so far, at D -/
structure CI (K : PySem.W.Frag) (S1 : SP') (H1 : Hp) (fp1 : List Addr) (D' : Addr) (σw : L2.St) (e : En) (acc : List D) (H : Hp) (S : SP') (fp : List Addr) : Prop where
  ext : Ext S1 H1 fp1 S H ([D'] ++ fp)
  wd : Wd K S H e fp σw
  sep : Sep S H ([D'] ++ fp)
  at_ : ∃ vs, H D' = some (.lst vs) ∧ reps K S H acc vs

theorem CI.start {K : PySem.W.Frag} {S1 : SP'} {H1 : Hp} {e1 : En} {fp1 : List Addr} {σ : L2.St} {vs : List Nat} {D' : Addr} (wd1 : Wd K S1 H1 e1 fp1 σ) (hD : H1 D' = none) : ∃ fp, CI K S1 H1 fp1 D' (wipe σ vs) (Fx.hide e1 vs) [] (upd H1 D' (.lst [])) S1 fp := by
  obtain ⟨fp, wdh, sub⟩ := wd1.hide (vs := vs)
  obtain ⟨k, fr, sp, rt⟩ := fresh_lst (K := K) (S := S1) (ds := []) (vs := []) reps.nil hD wd1.dom
  exact ⟨fp, ((Ext.refl S1 H1 fp1).sub sub).grow k fr, wdh.grow k, wdh.sep.grow sp k fr, [], upd_same, reps.nil⟩
/-- a part of a turn: D' waits -/
theorem CI.step {K : PySem.W.Frag} {S1 S S2 : SP'} {H1 H H2 : Hp} {fp1 fp fp2 : List Addr} {D' : Addr} {σw σ2 : L2.St} {e e2 : En} {acc : List D} (c : CI K S1 H1 fp1 D' σw e acc H S fp) (x : Ext S H fp S2 H2 fp2) (wd2 : Wd K S2 H2 e2 fp2 σ2) : CI K S1 H1 fp1 D' σ2 e2 acc H2 S2 fp2 := by
  obtain ⟨s1, s2⟩ := c.sep.wait x wd2.sep
  obtain ⟨vs, h1, h2⟩ := c.at_
  exact ⟨c.ext.wait x, wd2, s1, vs, by rw [s2 D' (by simp)]; exact h1, reps.stb (x.stb c.wd.sep) _ _ h2⟩
theorem CI.same {K : PySem.W.Frag} {S1 S : SP'} {H1 H : Hp} {fp1 fp fp2 : List Addr} {D' : Addr} {σw σ2 : L2.St} {e e2 : En} {acc : List D} (c : CI K S1 H1 fp1 D' σw e acc H S fp) (wd2 : Wd K S H e2 fp2 σ2) (sub : ∀ a ∈ fp2, a ∈ fp) : CI K S1 H1 fp1 D' σ2 e2 acc H S fp2 :=
  c.step ((Ext.refl S H fp).sub sub) wd2
/-- an item is put behind -/
theorem CI.push {K : PySem.W.Frag} {S1 S : SP'} {H1 H : Hp} {fp1 fp : List Addr} {D' : Addr} {σw : L2.St} {e : En} {acc : List D} {d : D} {v : V} {vs : List V} (c : CI K S1 H1 fp1 D' σw e acc H S fp) (hD : H1 D' = none) (hv : H D' = some (.lst vs)) (rd : rep K S H d v) : CI K S1 H1 fp1 D' σw e (acc ++ [d]) (upd H D' (.lst (vs ++ [v]))) S fp := by
  obtain ⟨wd, st, sep⟩ := c.wd.write (ws := vs ++ [v]) c.sep hv
  obtain ⟨vs', h1, h2⟩ := c.at_
  rw [hv] at h1
  cases h1
  exact ⟨c.ext.write hD, wd, sep, _, upd_same, reps.stb st _ _ (h2.app (reps.cons rd reps.nil))⟩
theorem CI.stb {K : PySem.W.Frag} {S1 S : SP'} {H1 H : Hp} {fp1 fp : List Addr} {D' : Addr} {σw : L2.St} {e : En} {acc : List D} (c : CI K S1 H1 fp1 D' σw e acc H S fp) (sp : Sep S1 H1 fp1) : Stb S1 H1 S H := c.ext.stb sp

/-- reading a part inside a turn -/
theorem TR.run0 {α β : Type} {K : PySem.W.Frag} {mg : Str → Option Value} {R : SP' → Hp → α → List Addr → β → Prop} {m : M α} {S : SP'} {H : Hp} {e e' : En} {fp : List Addr} {σ : L2.St} {Q : β → Hp → Prop} {x : α} (wd : Wd K S H e fp σ) (hm : m e = .ok x e')
    (h : ∀ S' H' fp' fx v, Ext S H fp S' H' (fx ++ fp') → Wd K S' H' e' fp' σ → Sep S' H' (fx ++ fp') → R S' H' x fx v → Q v H') : TR K mg W0 R m σ H Q := ⟨S, e, fp, wd, by rw [hm]; exact h⟩

theorem lim_lt {n k : Nat} (h : n < k) (hk : k ≤ lim) : n < sizeLine := by rw [← lim_eq]; omega
/-- one turn's inner part: the tests, the item, the item put behind -/
theorem comp_item {K : PySem.W.Frag} {mg : Str → Option Value} {S1 S : SP'} {H1 H : Hp} {fp1 fp : List Addr} {D' : Addr} {σ2 : L2.St} {e1 : En} {acc : List D} {t : M Bool} {x : M Vl} {Nx : Hp → Prop} {cont : List D → En → Rs (List D)} {accF : List D} {eF : En}
    (c : CI K S1 H1 fp1 D' σ2 e1 acc H S fp) (hD : H1 D' = none) (hz : acc.length < sizeLine)
    (hres : (match t e1 with
      | .ok true e2 => (match x e2 with
        | .ok y e3 => (match y.d with
          | some z => cont (acc ++ [z]) e3
          | none => .bad)
        | _ => .bad)
      | .ok false e2 => cont acc e2
      | _ => .bad) = .ok accF eF)
    (hN : ∀ S' H' fp' e' acc', (acc'.length ≤ acc.length + 1) → CI K S1 H1 fp1 D' σ2 e' acc' H' S' fp' → cont acc' e' = .ok accF eF → Nx H') :
    TR K mg W0 RB t σ2 H (fun b H3 => if b = true then TR K mg W0 (repV K) x σ2 H3 (fun y H4 => ∃ ac, H4 D' = some (.lst ac) ∧ ac.length < sizeLine ∧ Nx (upd H4 D' (.lst (ac ++ [y])))) else Nx H3) := by
  cases ht : t e1 with
  | bad => simp [ht] at hres
  | ex _ _ => simp [ht] at hres
  | ok b e2 =>
    refine TR.run0 c.wd ht fun S3 H3 fp3 fx v ext3 wd3 sep3 rb => ?_
    obtain ⟨rfl, rfl⟩ := rb
    have c3 := c.step ext3 wd3
    cases v with
    | false =>
      simp only [ht] at hres
      rw [if_neg Bool.false_ne_true]
      exact hN S3 H3 fp3 e2 acc (Nat.le_succ _) c3 hres
    | true =>
      simp only [ht] at hres
      rw [if_pos rfl]
      cases hx : x e2 with
      | bad => simp [hx] at hres
      | ex _ _ => simp [hx] at hres
      | ok y e3 =>
        simp only [hx] at hres
        cases hy : y.d with
        | none => simp [hy] at hres
        | some z =>
          simp only [hy] at hres
          refine TR.run0 wd3 hx fun S4 H4 fp4 fy w ext4 wd4 sep4 ry => ?_
          obtain ⟨ext5, wd5, rz⟩ := froze_wait ext4 wd4 sep4 hy ry
          have c5 := c3.step ext5 wd5
          obtain ⟨vs, h1, h2⟩ := c5.at_
          refine ⟨vs, h1, by rw [← h2.length]; exact hz, ?_⟩
          exact hN _ _ fp4 e3 (acc ++ [z]) (by simp) (c5.push hD h1 rz) hres

/-- .. with what is read for good told -/
theorem comp_item2 {K : PySem.W.Frag} {mg : Str → Option Value} {S1 S : SP'} {H1 H : Hp} {fp1 fpb : List Addr} {D' : Addr} {σ2 : L2.St} {e1 : En} {acc : List D} {t : M Bool} {x : M Vl} {Nx : Hp → Prop} {cont : List D → En → Rs (List D)} {accF : List D} {eF : En}
    (c : CI K S1 H1 fp1 D' σ2 e1 acc H S fpb) (hD : H1 D' = none) (hz : acc.length < sizeLine)
    (hres : (match t e1 with
      | .ok true e2 => (match x e2 with
        | .ok y e3 => (match y.d with
          | some z => cont (acc ++ [z]) e3
          | none => .bad)
        | _ => .bad)
      | .ok false e2 => cont acc e2
      | _ => .bad) = .ok accF eF)
    (hN : ∀ S' H' fp' e' acc', Stb S H S' H' → (acc'.length ≤ acc.length + 1) → CI K S1 H1 fp1 D' σ2 e' acc' H' S' fp' → cont acc' e' = .ok accF eF → Nx H') :
    TR K mg W0 RB t σ2 H (fun b H3 => if b = true then TR K mg W0 (repV K) x σ2 H3 (fun y H4 => ∃ ac, H4 D' = some (.lst ac) ∧ ac.length < sizeLine ∧ Nx (upd H4 D' (.lst (ac ++ [y])))) else Nx H3) := by
  cases ht : t e1 with
  | bad => simp [ht] at hres
  | ex _ _ => simp [ht] at hres
  | ok b e2 =>
    refine TR.run0 c.wd ht fun S3 H3 fp3 fx v ext3 wd3 sep3 rb => ?_
    obtain ⟨rfl, rfl⟩ := rb
    have c3 := c.step ext3 wd3
    have st3 : Stb S H S3 H3 := Ext.stb (fp1 := fp3) ext3 c.wd.sep
    cases v with
    | false =>
      simp only [ht] at hres
      rw [if_neg Bool.false_ne_true]
      exact hN S3 H3 fp3 e2 acc st3 (Nat.le_succ _) c3 hres
    | true =>
      simp only [ht] at hres
      rw [if_pos rfl]
      cases hx : x e2 with
      | bad => simp [hx] at hres
      | ex _ _ => simp [hx] at hres
      | ok y e3 =>
        simp only [hx] at hres
        cases hy : y.d with
        | none => simp [hy] at hres
        | some z =>
          simp only [hy] at hres
          refine TR.run0 wd3 hx fun S4 H4 fp4 fy w ext4 wd4 sep4 ry => ?_
          obtain ⟨ext5, wd5, rz⟩ := froze_wait ext4 wd4 sep4 hy ry
          have c5 := c3.step ext5 wd5
          have st5 := st3.trans (ext5.stb wd3.sep)
          obtain ⟨vs, h1, h2⟩ := c5.at_
          refine ⟨vs, h1, by rw [← h2.length]; exact hz, ?_⟩
          obtain ⟨_, st6, _⟩ := c5.wd.write (ws := vs ++ [w]) c5.sep h1
          exact hN _ _ fp4 e3 (acc ++ [z]) (st5.trans st6) (by simp) (c5.push hD h1 rz) hres

theorem comp_tr {vs ts : List Nat} {it : M (List D)} {g : D → En → Option En} {t : M Bool} {x : M Vl} (hts : ∀ i ∈ ts, i ∈ vs) {σ : L2.St} {H : Hp} {Q : VK} (h : TR X.K X.mg W (repV X.K) (eComp vs it g t x) σ H Q) :
    tLc (fun σ H R => TR X.K X.mg W (fun S H ds fx (J : It) => fx = [] ∧ Wk X.K S H J ds Y) it σ H R) (TGd X.K ts g Y) (TR X.K X.mg W0 RB t) (TR X.K X.mg W0 (repV X.K) x) vs σ H Q := by
  refine TR.bind (R' := repV X.K) (k := fun l e1 => if l.length ≤ lim then (match compGo vs g t x l [] (Fx.hide e1 vs) with | .ok acc e2 => .ok (.o acc) (Fx.unhide e1 e2 vs) | _ => .bad) else .bad) (Q := Q) h fun S e fp S1 H1 e1 fp1 fx l J wd ext wd1 sep1 rj p => ?_
  obtain ⟨rfl, wk⟩ := rj
  split at p
  · rename_i hl
    cases hr : compGo vs g t x l [] (Fx.hide e1 vs) with
    | bad => simp [hr, Rs.post] at p
    | ex _ _ => simp [hr, Rs.post] at p
    | ok accF eF =>
      simp only [hr, Rs.post] at p
      intro D' hD
      refine ⟨fun i m H' => m = l.length - i ∧ i ≤ l.length ∧ ∃ S' fp' e' acc, acc.length ≤ i ∧ CI X.K S1 H1 fp1 D' (wipe σ vs) e' acc H' S' fp' ∧ compGo vs g t x (l.drop i) acc e' = .ok accF eF, ⟨l.length, by simp, Nat.zero_le _, ?_⟩, ?_⟩
      · obtain ⟨fp', ci⟩ := CI.start (vs := vs) wd1 hD
        exact ⟨S1, fp', _, [], Nat.le_refl _, ci, by simpa using hr⟩
      · rintro i m H' ⟨rfl, hi, S', fp', e', acc, hacc, ci, hgo⟩
        obtain ⟨wk1, wk2⟩ := wk S' H' (ci.stb wd1.sep)
        by_cases hlt : i < l.length
        · have hd : l.drop i = l[i] :: l.drop (i + 1) := List.drop_eq_getElem_cons hlt
          obtain ⟨go, yl⟩ := wk1 i l[i] (by simp [hlt])
          refine .inr ⟨go, fun H2 => ∃ S' fp' e' acc, acc.length ≤ i + 1 ∧ CI X.K S1 H1 fp1 D' (wipe σ vs) e' acc H2 S' fp' ∧ compGo vs g t x (l.drop (i + 1)) acc e' = .ok accF eF, fun H2 h2 => ⟨l.length - (i + 1), by omega, rfl, hlt, h2⟩, fun y H2 hy => ?_⟩
          obtain ⟨gr, ry⟩ := yl y H2 hy
          have ci2 : CI X.K S1 H1 fp1 D' (wipe σ vs) e' acc H2 S' fp' := ci.step ((Ext.refl S' H' fp').grow (fz := []) gr (fun _ q => absurd q (by simp))) (ci.wd.grow gr)
          rw [hd] at hgo
          unfold compGo at hgo
          cases hgd : g l[i] e' with
          | none => simp [hgd] at hgo
          | some e2 =>
            simp only [hgd] at hgo
            refine ⟨S', e', fp', l[i], e2, ci2.wd, ry, hgd, fun σ2 Sg Hg fp2 xg wd2 o2 => ?_⟩
            have ew : wipe σ2 vs = wipe σ vs := by
              have h1 := wipe_out (vs := vs) o2 hts
              rw [h1]
              exact wipe_wipe fun _ h => h
            refine ⟨ew, ?_⟩
            have ci3 := ci2.step xg wd2
            refine comp_item (cont := fun acc e3 => compGo vs g t x (l.drop (i + 1)) acc (Fx.hide e3 vs)) ci3 hD (lim_lt (Nat.lt_of_le_of_lt hacc hlt) hl) hgo fun S4 H4 fp4 e4 acc4 hle ci4 hc4 => ?_
            obtain ⟨fp5, wd5, sub5⟩ := ci4.wd.hide (vs := vs)
            rw [ew] at wd5
            exact ⟨S4, fp5, _, acc4, by omega, ci4.same wd5 sub5, hc4⟩
        · have ei : i = l.length := by omega
          subst ei
          refine .inl ⟨wk2, ?_⟩
          rw [List.drop_length] at hgo
          unfold compGo at hgo
          cases hgo
          obtain ⟨fp6, wd6, sub6⟩ := Wd.unhide wd1 (ci.stb wd1.sep) (wipe_length σ vs) (vs := vs) ci.wd
          rw [back_wipe] at wd6
          have ci6 := ci.same wd6 sub6
          obtain ⟨ws, h1, h2⟩ := ci6.at_
          exact p S' H' fp6 [D'] _ (ext.trans ci6.ext) wd6 ci6.sep ⟨D', ws, rfl, rfl, h1, h2⟩
  · exact p.elim
theorem de_comp {elt tg iter : Expr} {ifs : List Expr} {scope : Scope} {own : List (Str × Nat)} {ts : List Nat} {it : M (List D)} {g : D → En → Option En} {t : M Bool} {x : M Vl} (hc : X.calm = true) (hN : X.N.Nodup) (hi : DI X W tg iter it Y) (ok : BlkOk X.N X.env.scope scope own)
    (hg : ∀ (s : Shared) (H : Hp) (C : Addr) (cl : List (Str × Addr)) (fp : List Addr), DG (X.blk s H scope (compEnvC scope cl C X.env) fp) ts tg g Y) (ht : ∀ (s : Shared) (H : Hp) (C : Addr) (cl : List (Str × Addr)) (fp : List Addr), DTs (X.blk s H scope (compEnvC scope cl C X.env) fp) ifs t)
    (he : ∀ (s : Shared) (H : Hp) (C : Addr) (cl : List (Str × Addr)) (fp : List Addr), DE (X.blk s H scope (compEnvC scope cl C X.env) fp) W0 elt x) (hts : ∀ i ∈ ts, i ∈ own.map (·.2) := by decide) (hs : ∀ x, foldedSetIterable iter X.env x = pure x := by intro _; rfl) :
    DE X W (.ListComp elt [⟨tg, iter, ifs, 0⟩] scope pos) (eComp (own.map (·.2)) it g t x) := by
  exact ⟨PEm (pe_lc (g := TGd X.K ts g Y) (tt := TR X.K X.mg W0 RB t) (te := TR X.K X.mg W0 (repV X.K) x) hc hN hi.p ok (fun s H C cl fp => (hg s H C cl fp).p) (fun s H C cl fp => (ht s H C cl fp).p) (fun s H C cl fp => (he s H C cl fp).p) hs) fun σ H Q h => comp_tr hts h⟩
theorem comp2_tr {vs vs1 ts ts1 : List Nat} {it it1 : M (List D)} {g g1 : D → En → Option En} {t t1 : M Bool} {x : M Vl} (hts : ∀ i ∈ ts, i ∈ vs) (hts1 : ∀ i ∈ ts1, i ∈ vs1) (hv : ∀ i ∈ vs1, i ∈ vs) {σ : L2.St} {H : Hp} {Q : VK} (h : TR X.K X.mg W (repV X.K) (eComp2 vs vs1 it g t it1 g1 t1 x) σ H Q) :
    tLc2 (fun σ H R => TR X.K X.mg W (fun S H ds fx (J : It) => fx = [] ∧ Wk X.K S H J ds Y) it σ H R) (TGd X.K ts g Y) (TR X.K X.mg W0 RB t) (fun σ H R => TR X.K X.mg W0 (fun S H ds fx (J : It) => fx = [] ∧ Wk X.K S H J ds Y1) it1 σ H R) (TGd X.K ts1 g1 Y1) (TR X.K X.mg W0 RB t1) (TR X.K X.mg W0 (repV X.K) x) vs vs1 σ H Q := by
  refine TR.bind (R' := repV X.K) (k := fun l e1 => match compGo2 vs vs1 g t it1 g1 t1 x l [] (Fx.hide e1 vs) with | .ok acc e2 => .ok (.o acc) (Fx.unhide e1 e2 vs) | _ => .bad) (Q := Q) h fun S e fp S1 H1 e1 fp1 fx l J wd ext wd1 sep1 rj p => ?_
  obtain ⟨rfl, wk⟩ := rj
  cases hr : compGo2 vs vs1 g t it1 g1 t1 x l [] (Fx.hide e1 vs) with
  | bad => simp [hr, Rs.post] at p
  | ex _ _ => simp [hr, Rs.post] at p
  | ok accF eF =>
    simp only [hr, Rs.post] at p
    intro D' hD
    refine ⟨fun i m H' => m = l.length - i ∧ i ≤ l.length ∧ ∃ S' fp' e' acc, CI X.K S1 H1 fp1 D' (wipe σ vs) e' acc H' S' fp' ∧ compGo2 vs vs1 g t it1 g1 t1 x (l.drop i) acc e' = .ok accF eF, ⟨l.length, by simp, Nat.zero_le _, ?_⟩, ?_⟩
    · obtain ⟨fp', ci⟩ := CI.start (vs := vs) wd1 hD
      exact ⟨S1, fp', _, [], ci, by simpa using hr⟩
    · rintro i m H' ⟨rfl, hi, S', fp', e', acc, ci, hgo⟩
      obtain ⟨wk1, wk2⟩ := wk S' H' (ci.stb wd1.sep)
      by_cases hlt : i < l.length
      · have hd : l.drop i = l[i] :: l.drop (i + 1) := List.drop_eq_getElem_cons hlt
        obtain ⟨go, yl⟩ := wk1 i l[i] (by simp [hlt])
        refine .inr ⟨go, fun H2 => ∃ S' fp' e' acc, CI X.K S1 H1 fp1 D' (wipe σ vs) e' acc H2 S' fp' ∧ compGo2 vs vs1 g t it1 g1 t1 x (l.drop (i + 1)) acc e' = .ok accF eF, fun H2 h2 => ⟨l.length - (i + 1), by omega, rfl, hlt, h2⟩, fun y H2 hy => ?_⟩
        obtain ⟨gr, ry⟩ := yl y H2 hy
        have ci2 : CI X.K S1 H1 fp1 D' (wipe σ vs) e' acc H2 S' fp' := ci.step ((Ext.refl S' H' fp').grow (fz := []) gr (fun _ q => absurd q (by simp))) (ci.wd.grow gr)
        rw [hd] at hgo
        unfold compGo2 at hgo
        cases hgd : g l[i] e' with
        | none => simp [hgd] at hgo
        | some e2 =>
          simp only [hgd] at hgo
          refine ⟨S', e', fp', l[i], e2, ci2.wd, ry, hgd, fun σ2 Sg Hg fp2 xg wd2 o2 => ?_⟩
          have ew : wipe σ2 vs = wipe σ vs := by
            have h1 := wipe_out (vs := vs) o2 hts
            rw [h1]
            exact wipe_wipe fun _ h => h
          refine ⟨ew, ?_⟩
          have ci3 := ci2.step xg wd2
          cases htt : t e2 with
          | bad => simp [htt] at hgo
          | ex _ _ => simp [htt] at hgo
          | ok b e3 =>
            refine TR.run0 ci3.wd htt fun S3 H3 fp3 fx3 v3 ext3 wd3 sep3 rb => ?_
            obtain ⟨rfl, rfl⟩ := rb
            have ci4 := ci3.step ext3 wd3
            cases v3 with
            | false =>
              simp only [htt] at hgo
              rw [if_neg Bool.false_ne_true]
              obtain ⟨fp5, wd5, sub5⟩ := ci4.wd.hide (vs := vs)
              rw [ew] at wd5
              exact ⟨S3, fp5, _, acc, ci4.same wd5 sub5, hgo⟩
            | true =>
              simp only [htt] at hgo
              rw [if_pos rfl]
              cases hit : it1 e3 with
              | bad => simp [hit] at hgo
              | ex _ _ => simp [hit] at hgo
              | ok l1 e4 =>
                simp only [hit] at hgo
                split at hgo
                · rename_i hlim
                  cases hin : compGo vs1 g1 t1 x l1 acc (Fx.hide e4 vs1) with
                  | bad => simp [hin] at hgo
                  | ex _ _ => simp [hin] at hgo
                  | ok acc2 e5 =>
                    simp only [hin] at hgo
                    refine TR.run0 wd3 hit fun S4 H4 fp4 fx4 J1 ext4 wd4 sep4 rj1 => ?_
                    obtain ⟨rfl, wkb⟩ := rj1
                    have ci5 := ci4.step ext4 wd4
                    refine ⟨fun j k H' => k = l1.length - j ∧ j ≤ l1.length ∧ ∃ S' fp' e' ac, ac.length ≤ acc.length + j ∧ Stb S4 H4 S' H' ∧ CI X.K S1 H1 fp1 D' (wipe σ2 vs1) e' ac H' S' fp' ∧ compGo vs1 g1 t1 x (l1.drop j) ac e' = .ok acc2 e5, ⟨l1.length, by simp, Nat.zero_le _, ?_⟩, ?_⟩
                    · obtain ⟨fp6, wd6, sub6⟩ := ci5.wd.hide (vs := vs1)
                      exact ⟨S4, fp6, _, acc, Nat.le_refl _, Stb.refl _ _, ci5.same wd6 sub6, by simpa using hin⟩
                    · rintro j k H6 ⟨rfl, hj, S6, fp6, e6, ac, hac, st6, ci6, hgo6⟩
                      obtain ⟨wkb1, wkb2⟩ := wkb S6 H6 st6
                      by_cases hjl : j < l1.length
                      · have hd1 : l1.drop j = l1[j] :: l1.drop (j + 1) := List.drop_eq_getElem_cons hjl
                        obtain ⟨go1, yl1⟩ := wkb1 j l1[j] (by simp [hjl])
                        refine .inr ⟨go1, fun H2 => ∃ S' fp' e' ac, ac.length ≤ acc.length + (j + 1) ∧ Stb S4 H4 S' H2 ∧ CI X.K S1 H1 fp1 D' (wipe σ2 vs1) e' ac H2 S' fp' ∧ compGo vs1 g1 t1 x (l1.drop (j + 1)) ac e' = .ok acc2 e5, fun H2 h2 => ⟨l1.length - (j + 1), by omega, rfl, hjl, h2⟩, fun y1 H7 hy1 => ?_⟩
                        obtain ⟨gr1, ry1⟩ := yl1 y1 H7 hy1
                        have ci7 : CI X.K S1 H1 fp1 D' (wipe σ2 vs1) e6 ac H7 S6 fp6 := ci6.step ((Ext.refl S6 H6 fp6).grow (fz := []) gr1 (fun _ q => absurd q (by simp))) (ci6.wd.grow gr1)
                        rw [hd1] at hgo6
                        unfold compGo at hgo6
                        cases hgd1 : g1 l1[j] e6 with
                        | none => simp [hgd1] at hgo6
                        | some e7 =>
                          simp only [hgd1] at hgo6
                          refine ⟨S6, e6, fp6, l1[j], e7, ci7.wd, ry1, hgd1, fun σ3 Sh Hh fp7 xh wd7 o7 => ?_⟩
                          have ew1 : wipe σ3 vs1 = wipe σ2 vs1 := by
                            have h1 := wipe_out (vs := vs1) o7 hts1
                            rw [h1]
                            exact wipe_wipe fun _ h => h
                          refine ⟨ew1, ?_⟩
                          have ci8 := ci7.step xh wd7
                          have st7 : Stb S4 H4 Sh Hh := (st6.trans (Stb.grow gr1)).trans (xh.stb ci7.wd.sep)
                          -- the items made so far stand beside: D' is no part of what is read for good
                          refine comp_item2 (fpb := fp7) (cont := fun acc e3 => compGo vs1 g1 t1 x (l1.drop (j + 1)) acc (Fx.hide e3 vs1)) ci8 hD (lim_lt (Nat.lt_of_lt_of_le (Nat.lt_of_le_of_lt hac (by omega)) (Nat.le_refl (acc.length + l1.length))) hlim) hgo6 fun S8 H8 fp8 e8 ac8 st8 hle ci9 hc9 => ?_
                          obtain ⟨fp9, wd9, sub9⟩ := ci9.wd.hide (vs := vs1)
                          rw [ew1] at wd9
                          exact ⟨S8, fp9, _, ac8, by omega, st7.trans st8, ci9.same wd9 sub9, hc9⟩
                      · have ej : j = l1.length := by omega
                        subst ej
                        refine .inl ⟨wkb2, ?_⟩
                        rw [List.drop_length] at hgo6
                        unfold compGo at hgo6
                        cases hgo6
                        obtain ⟨fp7, wd7, sub7⟩ := ci6.wd.hide (vs := vs)
                        have e8 : wipe (wipe σ2 vs1) vs = wipe σ vs := (wipe_wipe hv).trans ew
                        rw [e8] at wd7
                        exact ⟨S6, fp7, _, acc2, ci6.same wd7 sub7, hgo⟩
                · cases hgo
      · have ei : i = l.length := by omega
        subst ei
        refine .inl ⟨wk2, ?_⟩
        rw [List.drop_length] at hgo
        unfold compGo2 at hgo
        cases hgo
        obtain ⟨fp6, wd6, sub6⟩ := Wd.unhide wd1 (ci.stb wd1.sep) (wipe_length σ vs) (vs := vs) ci.wd
        rw [back_wipe] at wd6
        have ci6 := ci.same wd6 sub6
        obtain ⟨ws, h1, h2⟩ := ci6.at_
        exact p S' H' fp6 [D'] _ (ext.trans ci6.ext) wd6 ci6.sep ⟨D', ws, rfl, rfl, h1, h2⟩
theorem de_comp2 {elt tg iter tg1 iter1 : Expr} {ifs ifs1 : List Expr} {scope : Scope} {own : List (Str × Nat)} {vs1 ts ts1 : List Nat} {it it1 : M (List D)} {g g1 : D → En → Option En} {t t1 : M Bool} {x : M Vl} (hc : X.calm = true) (hN : X.N.Nodup) (hi : DI X W tg iter it Y) (ok : BlkOk X.N X.env.scope scope own)
    (hg : ∀ (s : Shared) (H : Hp) (C : Addr) (cl : List (Str × Addr)) (fp : List Addr), DG (X.blk s H scope (compEnvC scope cl C X.env) fp) ts tg g Y) (ht : ∀ (s : Shared) (H : Hp) (C : Addr) (cl : List (Str × Addr)) (fp : List Addr), DTs (X.blk s H scope (compEnvC scope cl C X.env) fp) ifs t)
    (hi1 : ∀ (s : Shared) (H : Hp) (C : Addr) (cl : List (Str × Addr)) (fp : List Addr), DI (X.blk s H scope (compEnvC scope cl C X.env) fp) W0 tg1 iter1 it1 Y1)
    (hg1 : ∀ (s : Shared) (H : Hp) (C : Addr) (cl : List (Str × Addr)) (fp : List Addr), DG (X.blk s H scope (compEnvC scope cl C X.env) fp) ts1 tg1 g1 Y1) (ht1 : ∀ (s : Shared) (H : Hp) (C : Addr) (cl : List (Str × Addr)) (fp : List Addr), DTs (X.blk s H scope (compEnvC scope cl C X.env) fp) ifs1 t1)
    (he : ∀ (s : Shared) (H : Hp) (C : Addr) (cl : List (Str × Addr)) (fp : List Addr), DE (X.blk s H scope (compEnvC scope cl C X.env) fp) W0 elt x) (hts : ∀ i ∈ ts, i ∈ own.map (·.2) := by decide) (hts1 : ∀ i ∈ ts1, i ∈ vs1 := by decide) (hv : ∀ i ∈ vs1, i ∈ own.map (·.2) := by decide)
    (hs : ∀ x, foldedSetIterable iter X.env x = pure x := by intro _; rfl) (hs1 : ∀ env x, foldedSetIterable iter1 env x = pure x := by intro _ _; rfl) :
    DE X W (.ListComp elt [⟨tg, iter, ifs, 0⟩, ⟨tg1, iter1, ifs1, 0⟩] scope pos) (eComp2 (own.map (·.2)) vs1 it g t it1 g1 t1 x) := by
  exact ⟨PEm (pe_lc2 (vs1 := vs1) (g := TGd X.K ts g Y) (tt := TR X.K X.mg W0 RB t) (wi1 := fun σ H R => TR X.K X.mg W0 (fun S H ds fx (J : It) => fx = [] ∧ Wk X.K S H J ds Y1) it1 σ H R) (g1 := TGd X.K ts1 g1 Y1) (tt1 := TR X.K X.mg W0 RB t1) (te := TR X.K X.mg W0 (repV X.K) x) hc hN hi.p ok hv
    (fun s H C cl fp => (hg s H C cl fp).p) (fun s H C cl fp => (ht s H C cl fp).p) (fun s H C cl fp => (hi1 s H C cl fp).p) (fun s H C cl fp => (hg1 s H C cl fp).p) (fun s H C cl fp => (ht1 s H C cl fp).p) (fun s H C cl fp => (he s H C cl fp).p) hs hs1) fun σ H Q h => comp2_tr hts hts1 hv h⟩
end
end Fx
end

section
set_option Elab.async false
set_option linter.all false
set_option maxRecDepth 100000
set_option maxHeartbeats 4000000
/-! Wj: statements. -/
namespace Fx
open PySem PySem.Spec PyProof.Rows L2

/-- what is wanted behind a statement of plain meaning -/
def Out.post (r : Out) (nx : En → Prop) (rt : Vl → En → Prop) (bk ct : En → Prop) (E : Ex → En → Prop) : Prop :=
  match r with
  | .nxt e => nx e
  | .ret x e => rt x e
  | .brk e => bk e
  | .cnt e => ct e
  | .ex x e => E x e
  | .bad => False
def goOn (K : PySem.W.Frag) (B : List (Nat × Addr)) (S : SP') (H : Hp) (fp : List Addr) (P : L2.St → Hp → Prop) (e : En) : Prop :=
  ∀ S' H' fp' σ', Ext S H fp S' H' fp' → Wd K S' H' e fp' σ' → bOk B σ' → P σ' H'
def giveB (K : PySem.W.Frag) (B : List (Nat × Addr)) (S : SP') (H : Hp) (fp : List Addr) (P : V → Hp → Prop) (x : Vl) (e : En) : Prop :=
  ∀ S' H' fp' fx σ' v, Ext S H fp S' H' (fx ++ fp') → Wd K S' H' e fp' σ' → Sep S' H' (fx ++ fp') → bOk B σ' → repV K S' H' x fx v → P v H'
def exS (K : PySem.W.Frag) (mg : Str → Option Value) (B : List (Nat × Addr)) (W : WX) (S : SP') (H : Hp) (fp : List Addr) (x : Ex) (e : En) : Prop :=
  ∀ S' H' fp' σ' c dd, Ext S H fp S' H' fp' → Wd K S' H' e fp' σ' → bOk B σ' → exR K mg S' H' x c dd → W c dd σ' H'
def sPost (K : PySem.W.Frag) (mg : Str → Option Value) (B : List (Nat × Addr)) (W : WX) (D : Ends) (S : SP') (H : Hp) (fp : List Addr) (r : Out) : Prop :=
  r.post (goOn K B S H fp D.nx) (giveB K B S H fp D.rt) (goOn K B S H fp D.bk) (goOn K B S H fp D.ct) (exS K mg B W S H fp)
def TSx (K : PySem.W.Frag) (mg : Str → Option Value) (B : List (Nat × Addr)) (W : WX) (c : C) : TS := fun D σ H =>
  ∃ S e fp, Wd K S H e fp σ ∧ bOk B σ ∧ sPost K mg B W D S H fp (c e)
structure DS (X : Cx) (B : List (Nat × Addr)) (W : WX) (st : Stmt) (c : C) : Prop where
  p : PS X st (TSx X.K X.mg B W c)
structure DSs (X : Cx) (B : List (Nat × Addr)) (W : WX) (st : List Stmt) (c : C) : Prop where
  p : PSs X st (TSx X.K X.mg B W c)
theorem PSm {X : Cx} {e : Stmt} {t t' : TS} (h : PS X e t) (k : ∀ D σ H, t' D σ H → t D σ H) : PS X e t' := ⟨fun pins s σ H D I q => h.run pins s σ H D I (k D σ H q)⟩
theorem PSsm {X : Cx} {e : List Stmt} {t t' : TS} (h : PSs X e t) (k : ∀ D σ H, t' D σ H → t D σ H) : PSs X e t' := ⟨fun pins s σ H D I q => h.run pins s σ H D I (k D σ H q)⟩
section
variable {K : PySem.W.Frag} {mg : Str → Option Value} {B : List (Nat × Addr)} {W : WX} {D : Ends} {S S1 : SP'} {H H1 : Hp} {fp fp1 : List Addr}
theorem goOn.more {P : L2.St → Hp → Prop} {e : En} (h : goOn K B S H fp P e) (x : Ext S H fp S1 H1 fp1) : goOn K B S1 H1 fp1 P e := fun S' H' fp' σ' a b c => h S' H' fp' σ' (x.trans a) b c
theorem giveB.more {P : V → Hp → Prop} {x : Vl} {e : En} (h : giveB K B S H fp P x e) (y : Ext S H fp S1 H1 fp1) : giveB K B S1 H1 fp1 P x e := fun S' H' fp' fx σ' v a b c d f => h S' H' fp' fx σ' v (y.trans a) b c d f
theorem exS.more {x : Ex} {e : En} (h : exS K mg B W S H fp x e) (y : Ext S H fp S1 H1 fp1) : exS K mg B W S1 H1 fp1 x e := fun S' H' fp' σ' c dd a b bo d => h S' H' fp' σ' c dd (y.trans a) b bo d
theorem sPost.more {r : Out} (h : sPost K mg B W D S H fp r) (x : Ext S H fp S1 H1 fp1) : sPost K mg B W D S1 H1 fp1 r := by
  unfold sPost at h ⊢
  cases r with
  | nxt e => exact goOn.more h x
  | ret y e => exact giveB.more h x
  | brk e => exact goOn.more h x
  | cnt e => exact goOn.more h x
  | ex y e => exact exS.more h x
  | bad => exact h
theorem exW.of {x : Ex} {e : En} {σ : L2.St} (bo : bOk B σ) (h : exS K mg B W S H fp x e) : exW K mg W S H fp σ x e := fun S' H' fp' c dd a b d => h S' H' fp' σ c dd a b bo d
end
section
variable {Y Y1 : Bool} {X : Cx} {B : List (Nat × Addr)} {W : WX} {st : Stmt} {rest : List Stmt} {a b c : Expr} {pos : Pos} {m n : M Vl} {p q : C}
theorem dss_nil : DSs X B W [] sNil := ⟨PSsm pss_nil fun D σ H ⟨S, e, fp, wd, bo, h⟩ => h S H fp σ (Ext.refl S H fp) wd bo⟩
theorem dss_cons (h1 : DS X B W st p) (h2 : DSs X B W rest q) : DSs X B W (st :: rest) (sSeq p q) := by
  refine ⟨PSsm (pss_cons h1.p h2.p) fun D σ H ⟨S, e, fp, wd, bo, h⟩ => ⟨S, e, fp, wd, bo, ?_⟩⟩
  unfold sSeq at h
  cases hp : p e with
  | nxt e1 =>
    simp only [hp] at h
    exact fun S' H' fp' σ' x wd' bo' => ⟨S', e1, fp', wd', bo', h.more x⟩
  | ret _ _ => simp only [hp] at h; exact h
  | brk _ => simp only [hp] at h; exact h
  | cnt _ => simp only [hp] at h; exact h
  | ex _ _ => simp only [hp] at h; exact h
  | bad => simp only [hp] at h; exact h
theorem dss_one (h1 : DS X B W st p) : DSs X B W [st] p := ⟨pss_one h1.p⟩
theorem ds_pass : DS X B W (.Pass pos) sNil := ⟨PSm ps_pass fun D σ H ⟨S, e, fp, wd, bo, h⟩ => h S H fp σ (Ext.refl S H fp) wd bo⟩
theorem ds_break : DS X B W (.Break pos) (fun e => .brk e) := ⟨PSm ps_break fun D σ H ⟨S, e, fp, wd, bo, h⟩ => h S H fp σ (Ext.refl S H fp) wd bo⟩
theorem ds_cont : DS X B W (.Continue pos) (fun e => .cnt e) := ⟨PSm ps_continue fun D σ H ⟨S, e, fp, wd, bo, h⟩ => h S H fp σ (Ext.refl S H fp) wd bo⟩
theorem ds_doc {x j pos'} : DS X B W (.Expr (.Constant (.str x) j pos) pos') sNil := ⟨PSm ps_doc fun D σ H ⟨S, e, fp, wd, bo, h⟩ => h S H fp σ (Ext.refl S H fp) wd bo⟩
theorem ds_if {t : M Bool} {u v : List Stmt} (ht : DT X W c t) (h1 : DSs X B W u p) (h2 : DSs X B W v q) : DS X B W (.If c u v pos) (sIf t p q) := by
  refine ⟨PSm (ps_if ht.p h1.p h2.p) fun D σ H ⟨S, e, fp, wd, bo, h⟩ => ⟨S, e, fp, wd, ?_⟩⟩
  unfold sIf at h
  cases ht : t e with
  | ok k e1 =>
    simp only [ht] at h
    intro S' H' fp' fx v x wd' sp r
    obtain ⟨rfl, rfl⟩ := r
    cases v with
    | true => rw [if_pos rfl]; exact ⟨S', e1, fp', wd', bo, (by simpa using h : sPost X.K X.mg B W D S H fp (p e1)).more x⟩
    | false => rw [if_neg Bool.false_ne_true]; exact ⟨S', e1, fp', wd', bo, (by simpa using h : sPost X.K X.mg B W D S H fp (q e1)).more x⟩
  | ex _ _ => simp only [ht] at h; exact exW.of bo h
  | bad => simp only [ht] at h; exact h
theorem ds_ret (h1 : DE X W a m) : DS X B W (.Return (some a) pos) (sRet m) := by
  refine ⟨PSm (ps_ret h1.p) fun D σ H ⟨S, e, fp, wd, bo, h⟩ => ⟨S, e, fp, wd, ?_⟩⟩
  unfold sRet at h
  cases hm : m e with
  | ok k e1 => simp only [hm] at h; exact fun S' H' fp' fx v x wd' sp r => h S' H' fp' fx σ v x wd' sp bo r
  | ex _ _ => simp only [hm] at h; exact exW.of bo h
  | bad => simp only [hm] at h; exact h
theorem ds_retN : DS X B W (.Return none pos) (sRet (eC .non)) := ⟨PSm ps_retN fun D σ H ⟨S, e, fp, wd, bo, h⟩ => h S H fp [] σ .non (Ext.refl S H fp) wd wd.sep bo ⟨rfl, by unfold rep; rfl⟩⟩
theorem ds_drop (h1 : DE X W a m) (hs : swapsWith a none pos.line X.env = pure false := by rfl) : DS X B W (.Expr a pos) (sDrop m) := by
  refine ⟨PSm (ps_expr h1.p hs) fun D σ H ⟨S, e, fp, wd, bo, h⟩ => ⟨S, e, fp, wd, ?_⟩⟩
  unfold sDrop at h
  cases hm : m e with
  | ok k e1 => simp only [hm] at h; exact fun S' H' fp' fx v x wd' sp r => h S' H' fp' σ x.drop wd' bo
  | ex _ _ => simp only [hm] at h; exact exW.of bo h
  | bad => simp only [hm] at h; exact h
/-- a name stored -/
theorem set_tr {i : Nat} (hB : ∀ p ∈ B, p.1 ≠ i) {D : Ends} {σ : L2.St} {H : Hp} (h : TSx X.K X.mg B W (sSet i m) D σ H) : TR X.K X.mg W (repV X.K) m σ H (fun x H1 => D.nx (σ.set i (some x)) H1) := by
  obtain ⟨S, e, fp, wd, bo, h⟩ := h
  refine ⟨S, e, fp, wd, ?_⟩
  unfold sSet at h
  cases hm : m e with
  | ok k e1 =>
    simp only [hm] at h
    intro S' H' fp' fx v x wd' sp r
    obtain ⟨fp2, wd2, sub2⟩ := wd'.put (i := i) sp r
    exact h S' H' fp2 _ (x.sub sub2) wd2 (bo.out (out_set _ _ _) fun p hp => by simpa using hB p hp)
  | ex _ _ => simp only [hm] at h; exact exW.of bo h
  | bad => simp only [hm] at h; exact h
theorem ds_set {i : Nat} {x : Str} {pos' : Pos} (hN : X.N.Nodup) (h1 : DE X W a m) (hi : X.N[i]? = some x := by rfl) (hx : Loc X.env.scope x := by first | exact .inl rfl | exact .inr rfl) (hs : swapsWith a (some (.Name x pos')) pos.line X.env = pure false := by rfl) (hB : ∀ p ∈ B, p.1 ≠ i := by simp)
    (hf : X.fn x = true ∨ X.env.scope.names.lookup x = some .local := by first | exact .inl rfl | exact .inr rfl | assumption) : DS X B W (.Assign [.Name x pos'] a pos) (sSet i m) :=
  ⟨PSm (ps_set hN hi hx h1.p hs hf) fun D σ H h => set_tr hB h⟩
/-- name = [..] on one row -/
theorem ds_setC {i : Nat} {y : Str} {py spos : Pos} {elt tg iter : Expr} {ifs : List Expr} {scope : Scope} {own : List (Str × Nat)} {ts : List Nat} {it : M (List D)} {g : D → En → Option En} {t : M Bool} {x : M Vl} (hc : X.calm = true) (hN : X.N.Nodup) (hi : DI X W tg iter it Y) (ok : BlkOk X.N X.env.scope scope own)
    (hg : ∀ (s : Shared) (H : Hp) (C : Addr) (cl : List (Str × Addr)) (fp : List Addr), DG (X.blk s H scope (compEnvC scope cl C X.env) fp) ts tg g Y) (ht : ∀ (s : Shared) (H : Hp) (C : Addr) (cl : List (Str × Addr)) (fp : List Addr), DTs (X.blk s H scope (compEnvC scope cl C X.env) fp) ifs t)
    (he : ∀ (s : Shared) (H : Hp) (C : Addr) (cl : List (Str × Addr)) (fp : List Addr), DE (X.blk s H scope (compEnvC scope cl C X.env) fp) W0 elt x) (hts : ∀ i ∈ ts, i ∈ own.map (·.2) := by decide) (hy : X.N[i]? = some y := by rfl) (hyl : X.env.scope.names.lookup y = some .local := by rfl)
    (hsw : swapsWith (.ListComp elt [⟨tg, iter, ifs, 0⟩] scope pos) (some (.Name y py)) spos.line X.env = pure true := by rfl) (hB : ∀ p ∈ B, p.1 ≠ i := by simp) (hs : ∀ x, foldedSetIterable iter X.env x = pure x := by intro _; rfl) :
    DS X B W (.Assign [.Name y py] (.ListComp elt [⟨tg, iter, ifs, 0⟩] scope pos) spos) (sSet i (eComp (own.map (·.2)) it g t x)) :=
  ⟨PSm (ps_setLc (g := TGd X.K ts g Y) (tt := TR X.K X.mg W0 RB t) (te := TR X.K X.mg W0 (repV X.K) x) hc hN hy hyl hsw hi.p ok (fun s H C cl fp => (hg s H C cl fp).p) (fun s H C cl fp => (ht s H C cl fp).p) (fun s H C cl fp => (he s H C cl fp).p) hs) fun D σ H h => comp_tr hts (set_tr hB h)⟩
theorem ds_setC2 {i : Nat} {y : Str} {py spos : Pos} {elt tg iter tg1 iter1 : Expr} {ifs ifs1 : List Expr} {scope : Scope} {own : List (Str × Nat)} {vs1 ts ts1 : List Nat} {it it1 : M (List D)} {g g1 : D → En → Option En} {t t1 : M Bool} {x : M Vl} (hc : X.calm = true) (hN : X.N.Nodup) (hi : DI X W tg iter it Y) (ok : BlkOk X.N X.env.scope scope own)
    (hg : ∀ (s : Shared) (H : Hp) (C : Addr) (cl : List (Str × Addr)) (fp : List Addr), DG (X.blk s H scope (compEnvC scope cl C X.env) fp) ts tg g Y) (ht : ∀ (s : Shared) (H : Hp) (C : Addr) (cl : List (Str × Addr)) (fp : List Addr), DTs (X.blk s H scope (compEnvC scope cl C X.env) fp) ifs t)
    (hi1 : ∀ (s : Shared) (H : Hp) (C : Addr) (cl : List (Str × Addr)) (fp : List Addr), DI (X.blk s H scope (compEnvC scope cl C X.env) fp) W0 tg1 iter1 it1 Y1)
    (hg1 : ∀ (s : Shared) (H : Hp) (C : Addr) (cl : List (Str × Addr)) (fp : List Addr), DG (X.blk s H scope (compEnvC scope cl C X.env) fp) ts1 tg1 g1 Y1) (ht1 : ∀ (s : Shared) (H : Hp) (C : Addr) (cl : List (Str × Addr)) (fp : List Addr), DTs (X.blk s H scope (compEnvC scope cl C X.env) fp) ifs1 t1)
    (he : ∀ (s : Shared) (H : Hp) (C : Addr) (cl : List (Str × Addr)) (fp : List Addr), DE (X.blk s H scope (compEnvC scope cl C X.env) fp) W0 elt x) (hts : ∀ i ∈ ts, i ∈ own.map (·.2) := by decide) (hts1 : ∀ i ∈ ts1, i ∈ vs1 := by decide) (hv : ∀ i ∈ vs1, i ∈ own.map (·.2) := by decide) (hy : X.N[i]? = some y := by rfl) (hyl : X.env.scope.names.lookup y = some .local := by rfl)
    (hsw : swapsWith (.ListComp elt [⟨tg, iter, ifs, 0⟩, ⟨tg1, iter1, ifs1, 0⟩] scope pos) (some (.Name y py)) spos.line X.env = pure true := by rfl) (hB : ∀ p ∈ B, p.1 ≠ i := by simp) (hs : ∀ x, foldedSetIterable iter X.env x = pure x := by intro _; rfl) (hs1 : ∀ env x, foldedSetIterable iter1 env x = pure x := by intro _ _; rfl) :
    DS X B W (.Assign [.Name y py] (.ListComp elt [⟨tg, iter, ifs, 0⟩, ⟨tg1, iter1, ifs1, 0⟩] scope pos) spos) (sSet i (eComp2 (own.map (·.2)) vs1 it g t it1 g1 t1 x)) :=
  ⟨PSm (ps_setLc2 (vs1 := vs1) (g := TGd X.K ts g Y) (tt := TR X.K X.mg W0 RB t) (wi1 := fun σ H R => TR X.K X.mg W0 (fun S H ds fx (J : It) => fx = [] ∧ Wk X.K S H J ds Y1) it1 σ H R) (g1 := TGd X.K ts1 g1 Y1) (tt1 := TR X.K X.mg W0 RB t1) (te := TR X.K X.mg W0 (repV X.K) x) hc hN hy hyl hsw hi.p ok hv
    (fun s H C cl fp => (hg s H C cl fp).p) (fun s H C cl fp => (ht s H C cl fp).p) (fun s H C cl fp => (hi1 s H C cl fp).p) (fun s H C cl fp => (hg1 s H C cl fp).p) (fun s H C cl fp => (ht1 s H C cl fp).p) (fun s H C cl fp => (he s H C cl fp).p) hs hs1) fun D σ H h => comp2_tr hts hts1 hv (set_tr hB h)⟩
/-- (a, b, ..) = value -/
theorem ds_to {ts : List Nat} {tg : Expr} {g : D → En → Option En} (h1 : DE X W a m) (h2 : DG X ts tg g) (hs : swapsWithSole [tg] a pos.line X.env = pure false := by rfl) (hw : swappedStores [tg] a X.env = pure none := by rfl) (h3 : (assignEach [tg] X.env).map (·.2) = [assign tg X.env] := by rfl) (hB : ∀ p ∈ B, p.1 ∉ ts := by simp) :
    DS X B W (.Assign [tg] a pos) (sTo g m) := by
  refine ⟨PSm (ps_asg h1.p h2.p hs hw h3) fun D σ H ⟨S, e, fp, wd, bo, h⟩ => ⟨S, e, fp, wd, ?_⟩⟩
  unfold sTo at h
  cases hm : m e with
  | ok k e1 =>
    simp only [hm] at h
    intro S' H' fp' fx v x wd' sp r
    cases hd : k.d with
    | none => simp only [hd, Option.bind_none] at h; exact h.elim
    | some d =>
      simp only [hd, Option.bind_some] at h
      cases hg : g d e1 with
      | none => simp only [hg] at h; exact h.elim
      | some e2 =>
        simp only [hg] at h
        obtain ⟨ext1, wd1, rd⟩ := froze_wait x wd' sp hd r
        exact ⟨_, e1, fp', d, e2, wd1, rd, hg, fun σ' Sg Hg fp2 xg wd2 o2 => h Sg Hg fp2 σ' (ext1.trans xg) wd2 (bo.out o2 hB)⟩
  | ex _ _ => simp only [hm] at h; exact exW.of bo h
  | bad => simp only [hm] at h; exact h
/-! loops -/
theorem ds_for {ts : List Nat} {tg iter : Expr} {body : List Stmt} {it : M (List D)} {g : D → En → Option En} (hp : PassesOwn (model X.prog X.w) X.A X.env X.xe) (hc : X.calm = true) (hi : DI X W tg iter it Y) (hg : DG X ts tg g Y) (hb : DSs X B W body p) (hs : ∀ x, foldedSetIterable iter X.env x = pure x := by intro _; rfl) (hB : ∀ p ∈ B, p.1 ∉ ts := by simp) :
    DS X B W (.For tg iter body [] pos) (sFor it g p) := by
  refine ⟨PSm (ps_for hp hc hi.p hg.p hb.p hs) fun D σ H ⟨S, e, fp, wd, bo, h⟩ => ⟨S, e, fp, wd, ?_⟩⟩
  unfold sFor at h
  cases hm : it e with
  | ex _ _ => simp only [hm] at h; exact exW.of bo h
  | bad => simp only [hm] at h; exact h
  | ok l e1 =>
    simp only [hm] at h
    intro S1 H1 fp1 fx J ext wd1 sp rj
    obtain ⟨rfl, wk⟩ := rj
    refine ⟨fun i m σ' H' => m = l.length - i ∧ i ≤ l.length ∧ bOk B σ' ∧ ∃ S' fp' e', Ext S1 H1 fp1 S' H' fp' ∧ Wd X.K S' H' e' fp' σ' ∧ sPost X.K X.mg B W D S H fp (forGo g p (l.drop i) e'), ⟨l.length, by simp, Nat.zero_le _, bo, S1, fp1, e1, Ext.refl _ _ _, wd1, by simpa using h⟩, ?_⟩
    rintro i m σ' H' ⟨rfl, hi, bo', S', fp', e', ext', wd', h'⟩
    obtain ⟨wk1, wk2⟩ := wk S' H' (ext'.stb wd1.sep)
    have extA : Ext S H fp S' H' fp' := Ext.trans (fp1 := fp1) ext ext'
    by_cases hlt : i < l.length
    · have hd : l.drop i = l[i] :: l.drop (i + 1) := List.drop_eq_getElem_cons hlt
      obtain ⟨go, yl⟩ := wk1 i l[i] (by simp [hlt])
      let Nn : L2.St → Hp → Prop := fun σ2 H2 => bOk B σ2 ∧ ∃ S' fp' e', Ext S1 H1 fp1 S' H2 fp' ∧ Wd X.K S' H2 e' fp' σ2 ∧ sPost X.K X.mg B W D S H fp (forGo g p (l.drop (i + 1)) e')
      refine .inr ⟨go, Nn, fun σ2 H2 h2 => ⟨l.length - (i + 1), by omega, rfl, hlt, h2⟩, fun y H2 hy => ?_⟩
      obtain ⟨gr, ry⟩ := yl y H2 hy
      have ext2 : Ext S1 H1 fp1 S' H2 fp' := ext'.trans ((Ext.refl S' H' fp').grow (fz := []) gr (fun _ q => absurd q (by simp)))
      rw [hd] at h'
      unfold forGo at h'
      cases hgd : g l[i] e' with
      | none => simp only [hgd] at h'; exact h'.elim
      | some e2 =>
        simp only [hgd] at h'
        refine ⟨S', e', fp', l[i], e2, wd'.grow gr, ry, hgd, fun σ2 Sg Hg fp2 xg wd2 o2 => ⟨Sg, e2, fp2, wd2, bo'.out o2 hB, ?_⟩⟩
        have ext3 : Ext S1 H1 fp1 Sg Hg fp2 := ext2.trans xg
        have extB : Ext S H fp Sg Hg fp2 := Ext.trans (fp1 := fp1) ext ext3
        cases hp2 : p e2 with
        | nxt e3 => simp only [hp2] at h'; exact fun S4 H4 fp4 σ4 x4 wd4 bo4 => ⟨bo4, S4, fp4, e3, ext3.trans x4, wd4, h'⟩
        | cnt e3 => simp only [hp2] at h'; exact fun S4 H4 fp4 σ4 x4 wd4 bo4 => ⟨bo4, S4, fp4, e3, ext3.trans x4, wd4, h'⟩
        | brk e3 => simp only [hp2] at h'; exact goOn.more h' extB
        | ret _ _ => simp only [hp2] at h'; exact giveB.more h' extB
        | ex _ _ => simp only [hp2] at h'; exact exS.more h' extB
        | bad => simp only [hp2] at h'; exact h'.elim
    · have ei : i = l.length := by omega
      subst ei
      rw [List.drop_length] at h'
      unfold forGo at h'
      exact .inl ⟨wk2, h' S' H' fp' σ' extA wd' bo'⟩
theorem ds_while {t : M Bool} {body : List Stmt} (hp : PassesOwn (model X.prog X.w) X.A X.env X.xe) (ht : DT X W c t) (hb : DSs X B W body p) : DS X B W (.While c body [] pos) (sWhile t p) := by
  refine ⟨PSm (ps_while hp ht.p hb.p) fun D σ H ⟨S, e, fp, wd, bo, h⟩ => ?_⟩
  have hne : sWhile t p e ≠ .bad := fun z => by rw [z] at h; exact h
  obtain ⟨n, hn⟩ := sWhile_ex hne
  refine ⟨fun m σ' H' => bOk B σ' ∧ ∃ S' fp' e' o, Ext S H fp S' H' fp' ∧ Wd X.K S' H' e' fp' σ' ∧ whileGo t p m e' = some o ∧ sPost X.K X.mg B W D S H fp o, ⟨n, bo, S, fp, e, _, Ext.refl _ _ _, wd, hn, h⟩, ?_⟩
  rintro m σ' H' ⟨bo', S', fp', e', o, ext', wd', hg, h'⟩
  cases m with
  | zero => simp [whileGo] at hg
  | succ m =>
    refine ⟨S', e', fp', wd', ?_⟩
    unfold whileGo at hg
    cases hte : t e' with
    | bad => simp only [hte] at hg; cases hg; exact h'
    | ex _ _ => simp only [hte] at hg; cases hg; exact exW.of bo' (exS.more h' ext')
    | ok k e2 =>
      simp only [hte] at hg
      intro S2 H2 fp2 fx v x2 wd2 sp2 r
      obtain ⟨rfl, rfl⟩ := r
      have ext2 : Ext S H fp S2 H2 fp2 := Ext.trans (fp1 := fp') ext' x2
      cases v with
      | false =>
        dsimp only at hg
        cases hg
        rw [if_neg Bool.false_ne_true]
        exact h' S2 H2 fp2 σ' ext2 wd2 bo'
      | true =>
        dsimp only at hg
        rw [if_pos rfl]
        refine ⟨fun σ3 H3 => bOk B σ3 ∧ ∃ S' fp' e' o, Ext S H fp S' H3 fp' ∧ Wd X.K S' H3 e' fp' σ3 ∧ whileGo t p m e' = some o ∧ sPost X.K X.mg B W D S H fp o, fun σ3 H3 h3 => ⟨m, Nat.lt_succ_self m, h3⟩, S2, e2, fp2, wd2, bo', ?_⟩
        cases hp2 : p e2 with
        | nxt e3 => simp only [hp2] at hg; exact fun S4 H4 fp4 σ4 x4 wd4 bo4 => ⟨bo4, S4, fp4, e3, o, ext2.trans x4, wd4, hg, h'⟩
        | cnt e3 => simp only [hp2] at hg; exact fun S4 H4 fp4 σ4 x4 wd4 bo4 => ⟨bo4, S4, fp4, e3, o, ext2.trans x4, wd4, hg, h'⟩
        | brk e3 => simp only [hp2] at hg; cases hg; exact goOn.more h' ext2
        | ret _ _ => simp only [hp2] at hg; cases hg; exact giveB.more h' ext2
        | ex _ _ => simp only [hp2] at hg; cases hg; exact exS.more h' ext2
        | bad => simp only [hp2] at hg; cases hg; exact h'.elim
end
end Fx
end

section
set_option Elab.async false
set_option linter.all false
set_option maxRecDepth 100000
set_option maxHeartbeats 4000000
/-! Wk: lists of one's own changed; op=; pairs. -/
namespace Fx
open PySem PySem.Spec PyProof.Rows L2

theorem mid_ne {f1 f2 f3 : List Addr} {b a : Addr} (nd : (f1 ++ (f2 ++ f3)).Nodup) (hb : b ∈ f2) (ha : a ∈ f1 ++ f3) : a ≠ b := fun z => by
  subst z
  simp only [List.nodup_append, List.mem_append] at nd
  rcases List.mem_append.mp ha with ha | ha
  · exact nd.2.2 a ha a (.inl hb) rfl
  · exact nd.2.1.2.2 a hb a ha rfl
/-- a list of one's own at a name, and how it is written -/
theorem Wd.own {K : PySem.W.Frag} {S : SP'} {H : Hp} {e : En} {fp : List Addr} {σ : L2.St} {k : Nat} {l : List D} (wd : Wd K S H e fp σ) (he : e[k]? = some (some (.o l))) :
    ∃ a vs, σ[k]? = some (some (.ref a)) ∧ H a = some (.lst vs) ∧ reps K S H l vs ∧ ∀ l' vs', reps K S H l' vs' →
      Wd K S (upd H a (.lst vs')) (e.set k (some (.o l'))) fp σ ∧ Ext S H fp S (upd H a (.lst vs')) fp := by
  obtain ⟨v, f1, f2, f3, q1, q2, q3, q4⟩ := wd.env.at he
  obtain ⟨a, vs, e1, e2, e3, e4⟩ := q3
  subst e1 e2 q2
  have nS : ¬ S a := wd.sep.ns a (by simp)
  refine ⟨a, vs, q1, e3, e4, fun l' vs' r => ?_⟩
  have st : Stb S H S (upd H a (.lst vs')) := ⟨fun _ h => h, fun b o h q => by
    by_cases hb : b = a
    · subst hb; rw [e3] at h; cases h; exact absurd q nS
    · rw [upd_ne hb]; exact h⟩
  have env := q4 S (upd H a (.lst vs')) (some (.o l')) [a] (some (.ref a)) st (fun b hb => upd_ne (mid_ne wd.sep.nd (by simp) hb)) ⟨_, rfl, a, vs', rfl, rfl, upd_same, reps.stb st _ _ r⟩
  rw [set_same q1] at env
  refine ⟨⟨env, ⟨wd.sep.nd, wd.sep.ns, fun b hb => ?_⟩, fun b hb => ?_⟩, ⟨fun b o h hm => ?_, fun b hb => .inl hb, fun _ h => h, fun _ h => .inl h⟩⟩
  · by_cases z : b = a
    · subst z; exact ⟨_, upd_same, trivial⟩
    · rw [upd_ne z]; exact wd.sep.ow b hb
  · obtain ⟨xs, h⟩ := wd.dom b hb
    exact ⟨xs, by rw [upd_ne (show b ≠ a from fun z => by subst z; exact nS hb)]; exact h⟩
  · rw [upd_ne (show b ≠ a from fun z => by subst z; exact hm (by simp))]; exact h
section
variable {X : Cx} {W : WX} {a b c : Expr} {pos : Pos} {m n : M Vl}
theorem rep_non {K : PySem.W.Frag} {S : SP'} {H : Hp} : rep K S H .non .non := by unfold rep; rfl
theorem list_ty {K : PySem.W.Frag} {H : Hp} {p : Addr} {vs : List V} (h : H p = some (.lst vs)) : tyV K "list" (.ref p) H := .inl ⟨rfl, vs, .inl (.inl h)⟩
theorem de_app (k : Nat) {x : Str} {p apos : Pos} (ha : DE X W a m) (hN : X.N[k]? = some x := by rfl) (hv : Vis X.env.scope x := by first | exact Or.inl rfl | exact Or.inr (Or.inl rfl) | exact Or.inr (Or.inr rfl)) (hd : (x == ("__debug__" : Str)) = false := by decide)
    (hcd : (x == ("__classdict__" : Str)) = false := by decide) (he : starEach (a :: []) X.env = (false, eval a X.env) :: starEach [] X.env := by rfl) (hb : attributeBase (.Name x p) "append" X.env (eval (.Name x p) X.env) = eval (.Name x p) X.env := by rfl)
    (hfew : ((backTo pos (starEach (a :: []) X.env)).all (fun x => !x.1) && (backToKw pos (keywordEach [] X.env)).all (fun x => x.1.isSome) && decide (([a] : List Expr).length + ([] : List Keyword).length + (if ([] : List Keyword).isEmpty then 0 else 1) < 30)) = true := by rfl)
    (hline : (apos.endLine == pos.line) = true := by rfl) (hpl : (backTo pos (starEach [] X.env)).any (·.1) = false := by rfl) :
    DE X W (.Call (.Attribute (.Name x p) "append" apos) [a] [] pos) (mApp k m) := by
  refine ⟨PEm (pe_bm PySem.F.plainAttrs_list PySem.F.slot_list_append PySem.F.type_list_append mt_append (pe_var hN hv hd hcd) (pa_cons ha.p pa_nil he) hb hfew hline he hpl) fun σ H Q h => ?_⟩
  obtain ⟨S, e, fp, wd, p⟩ := h
  unfold mApp at p
  split at p
  · rename_i l0 he0
    obtain ⟨a0, vs0, h1, h2, h3, _⟩ := wd.own he0
    refine ⟨.ref a0, h1, list_ty h2, ?_⟩
    refine TR.bind (R' := repV X.K) (k := fun y e => (match y.d, e[k]? with
      | some d, some (some (.o l)) => if l.length < lim then .ok (.v .non) (e.set k (some (.o (l ++ [d])))) else .bad
      | _, _ => .bad)) (Q := Q) ⟨S, e, fp, wd, p⟩ fun S0 e0 fp0 S1 H1 e1 fp1 fy y w wd0 ext wd1 sep1 ry p1 => ?_
    split at p1
    · rename_i d l hy hk
      split at p1
      · rename_i hz
        obtain ⟨ext1, wd1', rd⟩ := froze_wait ext wd1 sep1 hy ry
        obtain ⟨a1, vs, g1, g2, g3, g4⟩ := wd1'.own hk
        rw [h1] at g1
        cases g1
        obtain ⟨wd2, ext2⟩ := g4 (l ++ [d]) (vs ++ [w]) (g3.app (reps.cons rd reps.nil))
        exact ⟨a0, vs, w, rfl, rfl, g2, by rw [← g3.length, ← lim_eq]; exact hz, p1 _ _ fp1 [] _ (ext1.trans ext2) wd2 wd2.sep ⟨rfl, rep_non⟩⟩
      · exact p1.elim
    · exact p1.elim
  · exact p.elim
theorem de_ext (k : Nat) {x : Str} {p apos : Pos} (ha : DE X W a m) (hN : X.N[k]? = some x := by rfl) (hv : Vis X.env.scope x := by first | exact Or.inl rfl | exact Or.inr (Or.inl rfl) | exact Or.inr (Or.inr rfl)) (hd : (x == ("__debug__" : Str)) = false := by decide)
    (hcd : (x == ("__classdict__" : Str)) = false := by decide) (he : starEach (a :: []) X.env = (false, eval a X.env) :: starEach [] X.env := by rfl) (hb : attributeBase (.Name x p) "extend" X.env (eval (.Name x p) X.env) = eval (.Name x p) X.env := by rfl)
    (hfew : ((backTo pos (starEach (a :: []) X.env)).all (fun x => !x.1) && (backToKw pos (keywordEach [] X.env)).all (fun x => x.1.isSome) && decide (([a] : List Expr).length + ([] : List Keyword).length + (if ([] : List Keyword).isEmpty then 0 else 1) < 30)) = true := by rfl)
    (hline : (apos.endLine == pos.line) = true := by rfl) (hpl : (backTo pos (starEach [] X.env)).any (·.1) = false := by rfl) :
    DE X W (.Call (.Attribute (.Name x p) "extend" apos) [a] [] pos) (mExt k m) := by
  refine ⟨PEm (pe_bm PySem.F.plainAttrs_list PySem.F.slot_list_extend PySem.F.type_list_extend mt_extend (pe_var hN hv hd hcd) (pa_cons ha.p pa_nil he) hb hfew hline he hpl) fun σ H Q h => ?_⟩
  obtain ⟨S, e, fp, wd, p⟩ := h
  unfold mExt at p
  split at p
  · rename_i l0 he0
    obtain ⟨a0, vs0, h1, h2, h3, _⟩ := wd.own he0
    refine ⟨.ref a0, h1, list_ty h2, ?_⟩
    refine TR.bind (R' := repV X.K) (k := fun y e => (match y, e[k]? with
      | .o r, some (some (.o l)) => if l.length + r.length ≤ lim then .ok (.v .non) (e.set k (some (.o (l ++ r)))) else .bad
      | _, _ => .bad)) (Q := Q) ⟨S, e, fp, wd, p⟩ fun S0 e0 fp0 S1 H1 e1 fp1 fy y w wd0 ext wd1 sep1 ry p1 => ?_
    split at p1
    · rename_i r l hk
      split at p1
      · rename_i hz
        obtain ⟨b0, ws, k1, k2, k3, k4⟩ := ry
        obtain ⟨a1, vs, g1, g2, g3, g4⟩ := wd1.own hk
        rw [h1] at g1
        cases g1
        obtain ⟨wd2, ext2⟩ := g4 (l ++ r) (vs ++ ws) (g3.app k4)
        exact ⟨a0, b0, vs, ws, rfl, by rw [k1], g2, k3, by rw [← g3.length, ← k4.length, ← lim_eq]; exact hz, p1 _ _ fp1 [] _ (ext.drop.trans ext2) wd2 wd2.sep ⟨rfl, rep_non⟩⟩
      · exact p1.elim
    · exact p1.elim
  · exact p.elim
theorem de_pop (k : Nat) {x : Str} {p apos : Pos} (ha : DE X W a m) (hN : X.N[k]? = some x := by rfl) (hv : Vis X.env.scope x := by first | exact Or.inl rfl | exact Or.inr (Or.inl rfl) | exact Or.inr (Or.inr rfl)) (hd : (x == ("__debug__" : Str)) = false := by decide)
    (hcd : (x == ("__classdict__" : Str)) = false := by decide) (he : starEach (a :: []) X.env = (false, eval a X.env) :: starEach [] X.env := by rfl) (hb : attributeBase (.Name x p) "pop" X.env (eval (.Name x p) X.env) = eval (.Name x p) X.env := by rfl)
    (hfew : ((backTo pos (starEach (a :: []) X.env)).all (fun x => !x.1) && (backToKw pos (keywordEach [] X.env)).all (fun x => x.1.isSome) && decide (([a] : List Expr).length + ([] : List Keyword).length + (if ([] : List Keyword).isEmpty then 0 else 1) < 30)) = true := by rfl)
    (hline : (apos.endLine == pos.line) = true := by rfl) (hpl : (backTo pos (starEach [] X.env)).any (·.1) = false := by rfl) :
    DE X W (.Call (.Attribute (.Name x p) "pop" apos) [a] [] pos) (mPop k m) := by
  refine ⟨PEm (pe_bm PySem.F.plainAttrs_list PySem.F.slot_list_pop PySem.F.type_list_pop mt_popAt (pe_var hN hv hd hcd) (pa_cons ha.p pa_nil he) hb hfew hline he hpl) fun σ H Q h => ?_⟩
  obtain ⟨S, e, fp, wd, p⟩ := h
  unfold mPop at p
  split at p
  · rename_i l0 he0
    obtain ⟨a0, vs0, h1, h2, h3, _⟩ := wd.own he0
    refine ⟨.ref a0, h1, list_ty h2, ?_⟩
    refine TR.bind (R' := repV X.K) (k := fun y e => (match y, e[k]? with
      | .v (.int i), some (some (.o l)) => if smallI i then (match Fx.ixN l.length i with
        | some j => (match l[j]? with
          | some d => .ok (.v d) (e.set k (some (.o (l.eraseIdx j))))
          | none => .bad)
        | none => .bad) else .bad
      | _, _ => .bad)) (Q := Q) ⟨S, e, fp, wd, p⟩ fun S0 e0 fp0 S1 H1 e1 fp1 fy y w wd0 ext wd1 sep1 ry p1 => ?_
    split at p1
    · rename_i i l hk
      split at p1
      · rename_i hsm
        split at p1
        · rename_i j hj
          split at p1
          · rename_i d hd
            obtain ⟨a1, vs, g1, g2, g3, g4⟩ := wd1.own hk
            rw [h1] at g1
            cases g1
            obtain ⟨u, k1, k2⟩ := g3.get hd
            obtain ⟨wd2, ext2⟩ := g4 (l.eraseIdx j) (vs.eraseIdx j) (g3.erase j)
            have hi := ry.2
            unfold rep at hi
            obtain ⟨hs1, hs2⟩ := small_of hsm
            have s1 := (ixN_seq (n := l.length) (i := i) (j := j) hj).1
            exact ⟨a0, vs, i, j, u, rfl, by rw [hi], g2, by omega, by omega, by rw [← g3.length]; exact s1, k1, p1 _ _ fp1 [] _ (ext.drop.trans ext2) wd2 wd2.sep ⟨rfl, rep.stb (ext2.stb wd1.sep) _ _ k2⟩⟩
          · exact p1.elim
        · exact p1.elim
      · exact p1.elim
    · exact p1.elim
  · exact p.elim
theorem reps.last {K : PySem.W.Frag} {S : SP'} {H : Hp} : ∀ {ds : List D} {vs : List V}, reps K S H ds vs → reps K S H ds.dropLast vs.dropLast := fun {ds vs} h => by
  rw [List.dropLast_eq_take, List.dropLast_eq_take, h.length]
  exact h.take _
theorem de_pop0 (k : Nat) {x : Str} {p apos : Pos} (hN : X.N[k]? = some x := by rfl) (hv : Vis X.env.scope x := by first | exact Or.inl rfl | exact Or.inr (Or.inl rfl) | exact Or.inr (Or.inr rfl)) (hd : (x == ("__debug__" : Str)) = false := by decide)
    (hcd : (x == ("__classdict__" : Str)) = false := by decide) (hb : attributeBase (.Name x p) "pop" X.env (eval (.Name x p) X.env) = eval (.Name x p) X.env := by rfl) (hline : (apos.endLine == pos.line) = true := by rfl) :
    DE X W (.Call (.Attribute (.Name x p) "pop" apos) [] [] pos) (mPop0 k) := by
  refine ⟨PEm (pe_bm0 PySem.F.plainAttrs_list PySem.F.slot_list_pop PySem.F.type_list_pop mt_pop (pe_var hN hv hd hcd) hb hline) fun σ H Q h => ?_⟩
  obtain ⟨S, e, fp, wd, p⟩ := h
  unfold mPop0 at p
  split at p
  · rename_i l he
    split at p
    · rename_i d hd
      obtain ⟨a0, vs, h1, h2, h3, h4⟩ := wd.own he
      obtain ⟨u, k1, k2⟩ := h3.get hd
      obtain ⟨wd2, ext2⟩ := h4 l.dropLast vs.dropLast h3.last
      exact ⟨.ref a0, h1, list_ty h2, a0, vs, u, rfl, rfl, h2, by rw [← h3.length]; exact k1, p _ _ fp [] _ ext2 wd2 wd2.sep ⟨rfl, rep.stb (ext2.stb wd.sep) _ _ k2⟩⟩
    · exact p.elim
  · exact p.elim

/-! ### x[i] = v, x[i][j] = v -/
theorem dg_ix (k : Nat) {x : Str} {p : Pos} {f : N} (ha : DN X a f) (hN : X.N[k]? = some x := by rfl) (hv : Vis X.env.scope x := by first | exact Or.inl rfl | exact Or.inr (Or.inl rfl) | exact Or.inr (Or.inr rfl)) (hd : (x == ("__debug__" : Str)) = false := by decide)
    (hcd : (x == ("__classdict__" : Str)) = false := by decide) (hasg : ∀ v, assign (.Subscript (.Name x p) a pos) X.env v = (do
      let ov ← holding [v] (eval (.Name x p) X.env)
      let iv ← holding [v, ov] (eval a X.env)
      standAt pos
      holding [v, ov, iv] (setItem ov iv v)
      release [v, ov, iv] []) := by intro _; rfl) : DG X [] (.Subscript (.Name x p) a pos) (gIx k f) := by
  refine ⟨PGm (pg_sub (pe_var hN hv hd hcd) ha.p set_list hasg) fun v σ H Q ⟨S, e, fp, d, e', wd, r, h, q⟩ => ?_⟩
  unfold gIx at h
  split at h
  · rename_i l i he hi
    cases hj : Fx.ixN l.length i with
    | none => rw [hj] at h; cases h
    | some j =>
      rw [hj] at h
      cases h
      obtain ⟨a0, vs, h1, h2, h3, h4⟩ := wd.own he
      obtain ⟨wd2, ext2⟩ := h4 (l.set j d) (vs.set j v) (h3.set j r)
      exact ⟨.ref a0, h1, S, e, fp, wd, i, hi, a0, vs, i, j, rfl, rfl, h2, by rw [← h3.length]; exact hj, q σ S _ fp ext2 wd2 (Out1.refl _ _)⟩
  · cases h
theorem rows.set {K : PySem.W.Frag} {S S' : SP'} {H H' : Hp} (st : Stb S H S' H') : ∀ {ls : List (List D)} {as : List Addr} {vs : List V} {i : Nat} {b : Addr} {r : List D} {ws : List V}, rows K S H ls as vs → as.Nodup → as[i]? = some b → (∀ a ∈ as, a ≠ b → H' a = H a) → H' b = some (.lst ws) → reps K S' H' r ws → rows K S' H' (ls.set i r) as vs
  | [], _, _, _, _, _, _, h, _, e, _, _, _ => by unfold rows at h; rw [h.1] at e; simp at e
  | l :: ls, _, _, 0, b, r, ws, h, nd, e, k, hb, hr => by
    unfold rows at h
    obtain ⟨b0, as, ws0, rs, h1, h2, h3, h4, h5⟩ := h
    subst h1 h2
    simp at e
    subst e
    simp only [List.set_cons_zero]
    unfold rows
    have nd' := List.nodup_cons.mp nd
    refine ⟨_, as, ws, rs, rfl, rfl, hb, hr, rows.stb st ls as rs (fun a q => k a (List.mem_cons_of_mem _ q) fun z => nd'.1 (z ▸ q)) h5⟩
  | l :: ls, _, _, i + 1, b, r, ws, h, nd, e, k, hb, hr => by
    unfold rows at h
    obtain ⟨b0, as, ws0, rs, h1, h2, h3, h4, h5⟩ := h
    subst h1 h2
    simp only [List.set_cons_succ]
    unfold rows
    have nd' := List.nodup_cons.mp nd
    have e' : as[i]? = some b := by simpa using e
    refine ⟨b0, as, ws0, rs, rfl, rfl, ?_, reps.stb st _ _ h4, rows.set st h5 nd'.2 e' (fun a q => k a (List.mem_cons_of_mem _ q)) hb hr⟩
    rw [k b0 List.mem_cons_self fun z => nd'.1 (z ▸ List.mem_of_getElem? e')]
    exact h3
theorem Wd.own2 {K : PySem.W.Frag} {S : SP'} {H : Hp} {e : En} {fp : List Addr} {σ : L2.St} {k : Nat} {l : List (List D)} {i : Nat} {r : List D} (wd : Wd K S H e fp σ) (he : e[k]? = some (some (.oo l))) (hi : l[i]? = some r) :
    ∃ a vs b ws, σ[k]? = some (some (.ref a)) ∧ H a = some (.lst vs) ∧ l.length = vs.length ∧ vs[i]? = some (.ref b) ∧ H b = some (.lst ws) ∧ reps K S H r ws ∧ ∀ r' ws', reps K S H r' ws' →
      Wd K S (upd H b (.lst ws')) (e.set k (some (.oo (l.set i r')))) fp σ ∧ Ext S H fp S (upd H b (.lst ws')) fp := by
  obtain ⟨v, f1, f2, f3, q1, q2, q3, q4⟩ := wd.env.at he
  obtain ⟨a, vs, as, e1, e2, e3, e4⟩ := q3
  subst e1 e2 q2
  obtain ⟨b, ws, g1, g2, g3, g4⟩ := e4.get hi
  have hbm : b ∈ a :: as := List.mem_cons_of_mem _ (List.mem_of_getElem? g1)
  have nS : ¬ S b := wd.sep.ns b (by simp only [List.mem_append]; exact .inr (.inl hbm))
  have ndA : (a :: as).Nodup := by
    have nd := wd.sep.nd
    simp only [List.nodup_append] at nd
    exact nd.2.1.1
  refine ⟨a, vs, b, ws, q1, e3, e4.length.1, g2, g3, g4, fun r' ws' hr => ?_⟩
  have st : Stb S H S (upd H b (.lst ws')) := ⟨fun _ h => h, fun c o h q => by
    by_cases hb : c = b
    · subst hb; rw [g3] at h; cases h; exact absurd q nS
    · rw [upd_ne hb]; exact h⟩
  have hab : a ≠ b := fun z => (List.nodup_cons.mp ndA).1 (z ▸ List.mem_of_getElem? g1)
  have rw' := rows.set st e4 (List.nodup_cons.mp ndA).2 g1 (fun c _ hc => upd_ne hc) upd_same (reps.stb st r' ws' hr)
  have env := q4 S (upd H b (.lst ws')) (some (.oo (l.set i r'))) (a :: as) (some (.ref a)) st (fun c hc => upd_ne (mid_ne wd.sep.nd hbm hc)) ⟨_, rfl, a, vs, as, rfl, rfl, by rw [upd_ne hab]; exact e3, rw'⟩
  rw [set_same q1] at env
  refine ⟨⟨env, ⟨wd.sep.nd, wd.sep.ns, fun c hc => ?_⟩, fun c hc => ?_⟩, ⟨fun c o h hm => ?_, fun c hc => .inl hc, fun _ h => h, fun _ h => .inl h⟩⟩
  · by_cases z : c = b
    · subst z; exact ⟨_, upd_same, trivial⟩
    · rw [upd_ne z]; exact wd.sep.ow c hc
  · obtain ⟨xs, h⟩ := wd.dom c hc
    exact ⟨xs, by rw [upd_ne (show c ≠ b from fun z => by subst z; exact nS hc)]; exact h⟩
  · rw [upd_ne (show c ≠ b from fun z => by subst z; exact hm (by simp only [List.mem_append]; exact .inr (.inl hbm)))]; exact h
theorem dg_ix2 (k : Nat) {x : Str} {p p1 : Pos} {f g : N} (ha : DN X a f) (hb : DN X b g) (hN : X.N[k]? = some x := by rfl) (hv : Vis X.env.scope x := by first | exact Or.inl rfl | exact Or.inr (Or.inl rfl) | exact Or.inr (Or.inr rfl)) (hd : (x == ("__debug__" : Str)) = false := by decide)
    (hcd : (x == ("__classdict__" : Str)) = false := by decide) (hs : PlainIx a := by exact fun _ _ => rfl) (hasg : ∀ v, assign (.Subscript (.Subscript (.Name x p) a p1) b pos) X.env v = (do
      let ov ← holding [v] (eval (.Subscript (.Name x p) a p1) X.env)
      let iv ← holding [v, ov] (eval b X.env)
      standAt pos
      holding [v, ov, iv] (setItem ov iv v)
      release [v, ov, iv] []) := by intro _; rfl) : DG X [] (.Subscript (.Subscript (.Name x p) a p1) b pos) (gIx2 k f g) := by
  refine ⟨PGm (pg_sub (pe_ix ix_seq' (pe_var hN hv hd hcd) ha.p hs) hb.p set_list hasg) fun v σ H Q ⟨S, e, fp, d, e', wd, r, h, q⟩ => ?_⟩
  unfold gIx2 at h
  split at h
  · rename_i l i j he hi hj
    cases h1 : Fx.ixN l.length i with
    | none => rw [h1] at h; cases h
    | some ii =>
      rw [h1, Option.bind_some] at h
      cases h2 : l[ii]? with
      | none => rw [h2] at h; cases h
      | some rr =>
        rw [h2, Option.bind_some] at h
        cases h3 : Fx.ixN rr.length j with
        | none => rw [h3] at h; cases h
        | some jj =>
          rw [h3] at h
          cases h
          obtain ⟨a0, vs, b0, ws, g1, g2, g3, g4, g5, g6, g7⟩ := wd.own2 he h2
          obtain ⟨wd2, ext2⟩ := g7 (rr.set jj d) (ws.set jj v) (g6.set jj r)
          refine ⟨.ref a0, g1, S, e, fp, wd, i, hi, .inl ⟨a0, vs, i, .ref b0, rfl, rfl, .inl (.inl g2), atI_of g3 h1 g4, S, e, fp, wd, j, hj, b0, ws, j, jj, rfl, rfl, g5, by rw [← g6.length]; exact h3, q σ S _ fp ext2 wd2 (Out1.refl _ _)⟩⟩
  · cases h

/-! ### op=, pairs -/
theorem ds_aug {B : List (Nat × Addr)} {i : Nat} {x : Str} {pos' : Pos} {op : Operator} {f : Int → Int → Int} (hN : X.N.Nodup) (ho : PIp X op (ipI f)) (h1 : DE X W a m) (hi : X.N[i]? = some x := by rfl) (hx : Loc X.env.scope x := by first | exact .inl rfl | exact .inr rfl) (hB : ∀ p ∈ B, p.1 ≠ i := by simp)
    (hf : X.fn x = true ∨ X.env.scope.names.lookup x = some .local := by first | exact .inl rfl | exact .inr rfl | assumption) : DS X B W (.AugAssign (.Name x pos') op a pos) (sAug i f m) := by
  refine ⟨PSm (ps_aug hN hi hx h1.p ho hf) fun D σ H ⟨S, e, fp, wd, bo, h⟩ => ?_⟩
  unfold sAug at h
  split at h
  · rename_i x0 he
    obtain ⟨v, fx, g1, g2, _⟩ := wd_at wd he
    have hv := g2.2
    unfold rep at hv
    subst hv
    refine ⟨_, g1, S, e, fp, wd, ?_⟩
    cases hm : m e with
    | bad => simp only [hm] at h; exact h
    | ex _ _ => simp only [hm] at h; exact exW.of bo h
    | ok y e1 =>
      simp only [hm] at h
      intro S' H' fp' fy w x' wd' sp r
      split at h
      · rename_i y0 e2 heq
        cases heq
        have hy := r.2
        unfold rep at hy
        subst hy
        have wd'' := wd'
        obtain ⟨fp2, wd2, sub2⟩ := wd'.put (fx := []) (i := i) (x := .v (.int (f x0 y0))) (v := .int (f x0 y0)) (by simpa using wd'.sep) ⟨rfl, rep_int _⟩
        exact ⟨x0, y0, rfl, rfl, h S' H' fp2 _ (x'.drop.sub (by simpa using sub2)) wd2 (bo.out (out_set _ _ _) fun p hp => by simpa using hB p hp)⟩
      · exact h.elim
      · rename_i heq; cases heq
      · rename_i heq; cases heq
  · exact h.elim
theorem ds_par {B : List (Nat × Addr)} {i j : Nat} {x y : Str} {r : M (List D)} {px py pt : Pos} {kt k2 pt2} (hc : X.calm = true) (hN : X.N.Nodup) (ha : DA X W [a, b] r) (hi : X.N[i]? = some x := by rfl) (hj : X.N[j]? = some y := by rfl) (hij : i ≠ j := by decide)
    (hx : X.env.scope.names.lookup x = some .local := by rfl) (hy : X.env.scope.names.lookup y = some .local := by rfl)
    (hw : swappedStores [.Tuple [.Name x px, .Name y py] kt pt] (.Tuple [a, b] k2 pt2) X.env = pure (some [x, y]) := by rfl)
    (hs : swapsWithSole [.Tuple [.Name x px, .Name y py] kt pt] (.Tuple [a, b] k2 pt2) pos.line X.env = pure false := by rfl) (hB : ∀ p ∈ B, p.1 ≠ i ∧ p.1 ≠ j := by simp) :
    DS X B W (.Assign [.Tuple [.Name x px, .Name y py] kt pt] (.Tuple [a, b] k2 pt2) pos) (sPar i j r) := by
  refine ⟨PSm (L2.ps_par hc hN hi hj hij hx hy ha.p hw hs) fun D σ H ⟨S, e, fp, wd, bo, h⟩ => ⟨S, e, fp, wd, ?_⟩⟩
  unfold sPar at h
  cases hm : r e with
  | bad => simp only [hm] at h; exact h
  | ex _ _ => simp only [hm] at h; exact exW.of bo h
  | ok l e1 =>
    simp only [hm] at h
    intro S' H' fp' fy vs x' wd' sp rl
    obtain ⟨rfl, rl⟩ := rl
    split at h
    · rename_i d1 d2 e2 heq
      cases heq
      unfold reps at rl
      obtain ⟨v1, q1, e0, r1, rl⟩ := rl
      unfold reps at rl
      obtain ⟨v2, q2, e0', r2, rl⟩ := rl
      unfold reps at rl
      subst e0 e0' rl
      obtain ⟨fp2, wd2, sub2⟩ := wd'.put (fx := []) (i := i) (x := .v d1) (by simpa using wd'.sep) ⟨rfl, r1⟩
      obtain ⟨fp3, wd3, sub3⟩ := wd2.put (fx := []) (i := j) (x := .v d2) (by simpa using wd2.sep) ⟨rfl, r2⟩
      refine ⟨v1, v2, rfl, h S' H' fp3 _ (x'.sub fun a q => ?_) wd3 ((bo.out (out_set _ _ _) fun p hp => by simpa using (hB p hp).1).out (out_set _ _ _) fun p hp => by simpa using (hB p hp).2)⟩
      have q1 := sub3 a q
      have q2 := sub2 a (by simpa using q1)
      simpa using q2
    · exact h.elim
    · rename_i heq; cases heq
    · rename_i heq; cases heq
theorem ds_par3 {B : List (Nat × Addr)} {i j l : Nat} {x y z : Str} {r : M (List D)} {px py pz pt : Pos} {kt k2 pt2} (hc : X.calm = true) (hN : X.N.Nodup) (ha : DA X W [a, b, c] r) (hi : X.N[i]? = some x := by rfl) (hj : X.N[j]? = some y := by rfl) (hl : X.N[l]? = some z := by rfl) (hij : i ≠ j := by decide) (hil : i ≠ l := by decide) (hjl : j ≠ l := by decide)
    (hx : X.env.scope.names.lookup x = some .local := by rfl) (hy : X.env.scope.names.lookup y = some .local := by rfl) (hz : X.env.scope.names.lookup z = some .local := by rfl)
    (hw : swappedStores [.Tuple [.Name x px, .Name y py, .Name z pz] kt pt] (.Tuple [a, b, c] k2 pt2) X.env = pure (some [x, y, z]) := by rfl)
    (hs : swapsWithSole [.Tuple [.Name x px, .Name y py, .Name z pz] kt pt] (.Tuple [a, b, c] k2 pt2) pos.line X.env = pure false := by rfl) (hB : ∀ p ∈ B, p.1 ≠ i ∧ p.1 ≠ j ∧ p.1 ≠ l := by simp) :
    DS X B W (.Assign [.Tuple [.Name x px, .Name y py, .Name z pz] kt pt] (.Tuple [a, b, c] k2 pt2) pos) (sPar3 i j l r) := by
  refine ⟨PSm (L2.ps_par3 hc hN hi hj hl hij hil hjl hx hy hz ha.p hw hs) fun D σ H ⟨S, e, fp, wd, bo, h⟩ => ⟨S, e, fp, wd, ?_⟩⟩
  unfold sPar3 at h
  cases hm : r e with
  | bad => simp only [hm] at h; exact h
  | ex _ _ => simp only [hm] at h; exact exW.of bo h
  | ok ll e1 =>
    simp only [hm] at h
    intro S' H' fp' fy vs x' wd' sp rl
    obtain ⟨rfl, rl⟩ := rl
    split at h
    · rename_i d1 d2 d3 e2 heq
      cases heq
      unfold reps at rl
      obtain ⟨v1, q1, e0, r1, rl⟩ := rl
      unfold reps at rl
      obtain ⟨v2, q2, e0', r2, rl⟩ := rl
      unfold reps at rl
      obtain ⟨v3, q3, e0'', r3, rl⟩ := rl
      unfold reps at rl
      subst e0 e0' e0'' rl
      obtain ⟨fp2, wd2, sub2⟩ := wd'.put (fx := []) (i := i) (x := .v d1) (by simpa using wd'.sep) ⟨rfl, r1⟩
      obtain ⟨fp3, wd3, sub3⟩ := wd2.put (fx := []) (i := j) (x := .v d2) (by simpa using wd2.sep) ⟨rfl, r2⟩
      obtain ⟨fp4, wd4, sub4⟩ := wd3.put (fx := []) (i := l) (x := .v d3) (by simpa using wd3.sep) ⟨rfl, r3⟩
      refine ⟨v1, v2, v3, rfl, h S' H' fp4 _ (x'.sub fun a q => ?_) wd4 (((bo.out (out_set _ _ _) fun p hp => by simpa using (hB p hp).1).out (out_set _ _ _) fun p hp => by simpa using (hB p hp).2.1).out (out_set _ _ _) fun p hp => by simpa using (hB p hp).2.2)⟩
      have q0 := sub4 a q
      have q1 := sub3 a (by simpa using q0)
      have q2 := sub2 a (by simpa using q1)
      simpa using q2
    · exact h.elim
    · rename_i heq; cases heq
    · rename_i heq; cases heq
end
end Fx
end

section
set_option Elab.async false
set_option linter.all false
set_option maxRecDepth 100000
set_option maxHeartbeats 4000000
/-! Wl: calls and defs. -/
namespace Fx
open PySem PySem.Spec PyProof.Rows L2

section
variable {K : PySem.W.Frag} {mg : Str → Option Value} {S S1 S2 : SP'} {H H1 H2 : Hp} {fp fp1 fx fl fr g g' : List Addr} {e : En} {σ : L2.St}
theorem Sep.perm (h : Sep S H g) (p : g.Perm g') : Sep S H g' := ⟨p.nodup_iff.mp h.nd, fun a q => h.ns a (p.mem_iff.mpr q), fun a q => h.ow a (p.mem_iff.mpr q)⟩
theorem Ext.perm (x : Ext S H fp S1 H1 g) (p : g.Perm g') : Ext S H fp S1 H1 g' := x.sub fun a q => p.mem_iff.mpr q
theorem envR.pad : ∀ {e : En} {fp : List Addr} {σ : L2.St} (k : Nat), envR K S H e fp σ → envR K S H (e ++ List.replicate k none) fp (σ ++ List.replicate k none)
  | [], _, _, 0, h => by simpa using h
  | [], fp, σ, k + 1, h => by
    unfold envR at h
    obtain ⟨rfl, rfl⟩ := h
    show envR K S H (none :: ([] ++ List.replicate k none)) [] (none :: ([] ++ List.replicate k none))
    unfold envR
    exact ⟨_, _, rfl, envR.pad k (by unfold envR; exact ⟨rfl, rfl⟩)⟩
  | none :: e, fp, σ, k, h => by
    unfold envR at h
    obtain ⟨s, r, h1, h2⟩ := h
    subst h1
    show envR K S H (none :: (e ++ _)) fp (s :: (r ++ _))
    unfold envR
    exact ⟨_, _, rfl, envR.pad k h2⟩
  | some y :: e, fp, σ, k, h => by
    unfold envR at h
    obtain ⟨v, r, f1, f2, h1, h2, h3, h4⟩ := h
    subst h1 h2
    show envR K S H (some y :: (e ++ _)) (f1 ++ f2) (some v :: (r ++ _))
    unfold envR
    exact ⟨_, _, f1, f2, rfl, rfl, h3, envR.pad k h4⟩
end

/-- what is promised of a def that computes F and changes what is lent at these places -/
def spF (K : PySem.W.Frag) (mg : Str → Option Value) (np : Nat) (lent : List Nat) (f : F) : Sp := fun vs H Q E =>
  vs.length = np ∧ (∀ p ∈ lent, ∃ a, vs[p]? = some (.ref a)) ∧ ∃ S xs fp, Wd K S H (xs.map some) fp (vs.map some) ∧
    (match f xs with
     | .ok x outs => ∀ S' H' fx fo v, Ext S H fp S' H' (fx ++ fo) → Wd K S' H' (outs.map some) fo (lent.map (vs[·]?)) → Sep S' H' (fx ++ fo) → repV K S' H' x fx v → Q v H'
     | .ex x => ∀ S' H' fo c dd, Ext S H fp S' H' fo → (∀ a, S' a → ∃ xs, H' a = some (.lst xs)) → exR K mg S' H' x c dd → E c dd H'
     | .bad => False)
/-- a def of the text that computes F -/
structure Fk (P : Program) (w : World) (K : PySem.W.Frag) (mg : Str → Option Value) (base : Heap) (k : Nat) (x : Str) (ps : List Str) (lent : List Nat) (f : F) : Prop where
  ex : ∃ a fd, FnOk P w K mg base (L2.CX P w) k a fd ps (spF K mg ps.length lent f) ∧ mg x = some (.ref a) ∧ PySem.W.keepIn K (.ref a) = true ∧ Binds K fd ps []
theorem Fk.mono {P : Program} {w : World} {K : PySem.W.Frag} {mg : Str → Option Value} {base : Heap} {j k : Nat} {x : Str} {ps : List Str} {lent : List Nat} {f : F} (h : Fk P w K mg base j x ps lent f) (l : j ≤ k) : Fk P w K mg base k x ps lent f := by
  obtain ⟨a, fd, h1, h2⟩ := h.ex
  exact ⟨a, fd, h1.mono l, h2⟩

/-! ### the body of a def -/
section
variable {P : Program} {w : World} {K : PySem.W.Frag} {mg : Str → Option Value} {base : Heap}
theorem outs_wd {S : SP'} {H : Hp} {e : En} {fp : List Addr} {σ : L2.St} {lent : List Nat} {os : List Vl} {vs : List V} {B : List (Nat × Addr)} (hl : lent.length ≤ 1) (hB : B.map (·.1) = lent) (hv : ∀ p ∈ B, vs[p.1]? = some (.ref p.2))
    (wd : Wd K S H e fp σ) (bo : bOk B σ) (h : outs lent e = some os) : ∃ fo, Wd K S H (os.map some) fo (lent.map (vs[·]?)) ∧ (∀ a ∈ fo, a ∈ fp) ∧ ∃ fr, fp.Perm (fo ++ fr) := by
  match lent, hl, B, hB with
  | [], _, _, _ =>
    simp only [outs, Option.some.injEq] at h
    subst h
    exact ⟨[], ⟨⟨rfl, rfl⟩, Sep.nil, wd.dom⟩, by simp, fp, List.Perm.refl _⟩
  | [i], _, [(i', a)], hB =>
    simp at hB
    subst hB
    unfold outs at h
    split at h
    · rename_i x hx
      simp only [outs, Option.map_some, Option.some.injEq] at h
      subst h
      obtain ⟨v, f1, f2, f3, q1, q2, q3, q4⟩ := wd.env.at hx
      have b1 := bo (i', a) (by simp)
      rw [q1] at b1
      simp only [Option.some.injEq] at b1
      subst b1 q2
      have pm : (f1 ++ (f2 ++ f3)).Perm (f2 ++ (f1 ++ f3)) := by
        rw [← List.append_assoc, ← List.append_assoc]
        exact List.perm_append_comm.append_right f3
      refine ⟨f2, ⟨?_, (wd.sep.perm pm).app1, wd.dom⟩, fun a q => by simp [q], f1 ++ f3, pm⟩
      have hv1 := hv (i', a) (by simp)
      simp only [List.map_cons, List.map_nil]
      show envR K S H [some x] f2 [vs[i']?]
      rw [hv1]
      unfold envR
      exact ⟨_, [], f2, [], rfl, by simp, q3, by unfold envR; exact ⟨rfl, rfl⟩⟩
    · cases h
theorem outs_len {e : En} : ∀ {lent : List Nat} {os : List Vl}, outs lent e = some os → True := fun _ => trivial
theorem body_sp {N : List Str} {lent : List Nat} {np : Nat} {c : C} {vs : List V} {H : Hp} {Q : VK} {E : XK} (hl : lent.length ≤ 1) (h : spF K mg np lent (runDef N.length lent c) vs H Q E) :
    ∃ B : List (Nat × Addr), B.map (·.1) = lent ∧ TSx K mg B (fun cls d _ H => E cls d H) c { nx := fun _ H' => Q .non H', rt := Q } (start N vs) H := by
  obtain ⟨h1, h2, S, xs, fp, wd, h⟩ := h
  have hB : ∃ B : List (Nat × Addr), B.map (·.1) = lent ∧ ∀ p ∈ B, vs[p.1]? = some (.ref p.2) := by
    match lent, hl with
    | [], _ => exact ⟨[], rfl, by simp⟩
    | [p], _ =>
      obtain ⟨a, ha⟩ := h2 p (by simp)
      exact ⟨[(p, a)], rfl, by simpa using ha⟩
  obtain ⟨B, e1, e2⟩ := hB
  have lx : xs.length = vs.length := by simpa using wd.env.len
  refine ⟨B, e1, S, _, fp, ⟨wd.env.pad (N.length - vs.length), wd.sep, wd.dom⟩, fun p hp => ?_, ?_⟩
  · have hv := e2 p hp
    show (vs.map some ++ List.replicate (N.length - vs.length) none)[p.1]? = _
    have lt : p.1 < vs.length := by
      rcases Nat.lt_or_ge p.1 vs.length with q | q
      · exact q
      · rw [List.getElem?_eq_none q] at hv; cases hv
    rw [List.getElem?_append_left (by simpa using lt), List.getElem?_map, hv]
    rfl
  · unfold runDef at h
    rw [lx] at h
    unfold sPost
    cases hc : c (xs.map some ++ List.replicate (N.length - vs.length) none) with
    | nxt e =>
      simp only [hc] at h
      intro S' H' fp' σ' ext wd' bo
      cases ho : outs lent e with
      | none => simp only [ho] at h
      | some os =>
        simp only [ho] at h
        obtain ⟨fo, w1, w2, _⟩ := outs_wd hl e1 e2 wd' bo ho
        exact h S' H' [] fo .non (ext.sub w2) w1 w1.sep ⟨rfl, rep_non⟩
    | ret x e =>
      simp only [hc] at h
      intro S' H' fp' fx σ' v ext wd' sep bo r
      cases ho : outs lent e with
      | none => simp only [ho] at h
      | some os =>
        simp only [ho] at h
        obtain ⟨fo, w1, w2, fr, pm⟩ := outs_wd hl e1 e2 wd' bo ho
        have pm2 : (fx ++ fp').Perm ((fx ++ fo) ++ fr) := by
          rw [List.append_assoc]
          exact pm.append_left fx
        exact h S' H' fx fo v (ext.sub fun a q => pm2.mem_iff.mpr (List.mem_append_left _ q)) w1 (sep.perm pm2).app1 r
    | brk e => simp only [hc] at h
    | cnt e => simp only [hc] at h
    | bad => simp only [hc] at h
    | ex x e =>
      simp only [hc] at h
      exact fun S' H' fp' σ' cc dd ext wd' _ r => h S' H' fp' cc dd ext wd'.dom r
theorem fk_def {x qual : Str} {st : Stmt} {f : Addr} {fd : FuncData} {N ps : List Str} {k : Nat} {lent : List Nat} {c : C} (Fn : Fun K x qual st f fd) (sc : FnScope N ps (defScope st)) (bn : Binds K fd ps []) (gm : mg x = some (.ref f)) (hl : lent.length ≤ 1)
    (hb : ∀ (cdv : Value) (A : Around) (outer : List Env) (s : Shared) (H : Hp) (E : XK), Room k (A.deeper (envOfC qual (defScope st) s.heap.objs.size f cdv)) → ∀ B : List (Nat × Addr), B.map (·.1) = lent → DSs (cxOf (L2.CX P w) P w K mg base N qual (defScope st) f cdv A outer s H E) B (fun cls d _ H => E cls d H) (defBody st) c) :
    Fk P w K mg base (k + 1) x ps lent (runDef N.length lent c) := by
  refine ⟨f, fd, Fn.okX sc (fun vs H Q E h => h.1) (fun cdv A outer s H vs Q E hr h => ?_), gm, Fn.kp, bn⟩
  obtain ⟨B, h1, h2⟩ := body_sp hl h
  exact ⟨_, (hb cdv A outer s H E hr B h1).p, h2⟩
end

/-! ### a call -/
/-- how the arguments lie -/
def argR (K : PySem.W.Frag) (S : SP') (H : Hp) (e : En) (σ : L2.St) : List Ar → List Vl → List V → Prop
  | [], l, vs => l = [] ∧ vs = []
  | .va _ :: r, l, vs => ∃ d l' v vs', l = .v d :: l' ∧ vs = v :: vs' ∧ rep K S H d v ∧ argR K S H e σ r l' vs'
  | .lent i :: r, l, vs => ∃ x l' v vs', l = x :: l' ∧ vs = v :: vs' ∧ x.own = true ∧ σ[i]? = some (some v) ∧ e[i]? = some (some x) ∧ argR K S H e σ r l' vs'
def TAr (K : PySem.W.Frag) (mg : Str → Option Value) (W : WX) (as : List Ar) : L2.St → Hp → (List V → Hp → Prop) → Prop := fun σ H Q =>
  ∃ S e fp, Wd K S H e fp σ ∧ (args as e).post (fun l e' => ∀ S' H' fp' vs, Ext S H fp S' H' fp' → Wd K S' H' e' fp' σ → argR K S' H' e' σ as l vs → Q vs H') (fun x e' => exW K mg W S H fp σ x e')
structure DAr (X : Cx) (W : WX) (es : List Expr) (as : List Ar) : Prop where
  p : PA X es (TAr X.K X.mg W as)
section
variable {X : Cx} {W : WX} {a b c : Expr} {pos : Pos} {m n : M Vl}
theorem dr_nil : DAr X W [] [] := ⟨PAm pa_nil fun σ H Q ⟨S, e, fp, wd, p⟩ => p S H fp [] (Ext.refl S H fp) wd ⟨rfl, rfl⟩⟩
theorem dr_va {es : List Expr} {r : List Ar} (ha : DE X W a m) (hr : DAr X W es r) (hs : starEach (a :: es) X.env = (false, eval a X.env) :: starEach es X.env := by rfl) : DAr X W (a :: es) (.va m :: r) := by
  refine ⟨PAm (pa_cons ha.p hr.p hs) fun σ H Q ⟨S, e, fp, wd, p⟩ => ⟨S, e, fp, wd, ?_⟩⟩
  unfold args at p
  cases hm : m e with
  | bad => simp only [hm, Rs.then] at p; exact p
  | ex x e1 => simp only [hm, Rs.then] at p; exact p
  | ok x e1 =>
    simp only [hm, Rs.then] at p
    intro S1 H1 fp1 fx v ext wd1 sep1 rx
    cases hx : x.d with
    | none => simp only [hx] at p; exact p.elim
    | some d =>
      simp only [hx] at p
      obtain ⟨ext1, wd1', rd⟩ := froze_wait ext wd1 sep1 hx rx
      refine ⟨_, e1, fp1, wd1', ?_⟩
      cases hr : args r e1 with
      | bad => simp only [hr] at p; exact p
      | ex y e2 => simp only [hr] at p; exact exW.more p ext1
      | ok l e2 =>
        simp only [hr] at p
        exact fun S2 H2 fp2 vs ext2 wd2 rr => p S2 H2 fp2 (v :: vs) (ext1.trans ext2) wd2 ⟨d, l, v, vs, rfl, rfl, rep.stb (ext2.stb wd1'.sep) d v rd, rr⟩
theorem dr_lent (k : Nat) {x : Str} {p : Pos} {es : List Expr} {r : List Ar} (hr : DAr X W es r) (hN : X.N[k]? = some x := by rfl) (hv : Vis X.env.scope x := by first | exact Or.inl rfl | exact Or.inr (Or.inl rfl) | exact Or.inr (Or.inr rfl)) (hd : (x == ("__debug__" : Str)) = false := by decide)
    (hcd : (x == ("__classdict__" : Str)) = false := by decide) (hs : starEach (.Name x p :: es) X.env = (false, eval (.Name x p) X.env) :: starEach es X.env := by rfl) : DAr X W (.Name x p :: es) (.lent k :: r) := by
  refine ⟨PAm (pa_cons (pe_var hN hv hd hcd) hr.p hs) fun σ H Q ⟨S, e, fp, wd, p⟩ => ?_⟩
  unfold args at p
  split at p
  · rename_i y hy
    obtain ⟨v, _, _, _, q1, _, _, _⟩ := wd.env.at hy
    refine ⟨v, q1, S, e, fp, wd, ?_⟩
    cases hr : args r e with
    | bad => simp only [hr, Rs.then] at p; exact p
    | ex y e2 => simp only [hr, Rs.then] at p; exact p
    | ok l e2 =>
      simp only [hr, Rs.then] at p
      intro S2 H2 fp2 vs ext2 wd2 rr
      split at p
      · rename_i z hz
        split at p
        · rename_i ow
          exact p S2 H2 fp2 (v :: vs) ext2 wd2 ⟨z, l, v, vs, rfl, rfl, ow, q1, hz, rr⟩
        · exact p.elim
      · exact p.elim
  · exact p.elim
theorem lentP_nil : ∀ {as : List Ar}, lentP as = [] → ∀ {S : SP'} {H : Hp} {e : En} {σ : L2.St} {l : List Vl} {vs : List V} {K : PySem.W.Frag}, argR K S H e σ as l vs → envR K S H (l.map some) [] (vs.map some)
  | [], _, _, _, _, _, _, _, _, h => by obtain ⟨rfl, rfl⟩ := h; exact ⟨rfl, rfl⟩
  | .va _ :: r, hp, _, _, _, _, _, _, _, h => by
    obtain ⟨d, l', v, vs', rfl, rfl, h1, h2⟩ := h
    simp only [lentP, List.map_eq_nil_iff] at hp
    simp only [List.map_cons]
    unfold envR
    exact ⟨_, _, [], [], rfl, rfl, ⟨rfl, h1⟩, lentP_nil hp h2⟩
  | .lent _ :: _, hp, _, _, _, _, _, _, _, _ => by simp [lentP] at hp
theorem puts_nil : ∀ {as : List Ar} {e : En}, lentP as = [] → puts as [] e = some e
  | [], _, _ => rfl
  | .va _ :: r, e, hp => by
    simp only [lentP, List.map_eq_nil_iff] at hp
    exact puts_nil (as := r) hp
  | .lent _ :: _, _, hp => by simp [lentP] at hp
theorem kill_nil : ∀ {as : List Ar} {e : En}, lentP as = [] → kill as e = e
  | [], _, _ => rfl
  | .va _ :: r, e, hp => by
    simp only [lentP, List.map_eq_nil_iff] at hp
    exact kill_nil (as := r) hp
  | .lent _ :: _, _, hp => by simp [lentP] at hp
theorem map_one {α β : Type} {f : α → β} {l : List α} {b : β} (h : l.map f = [b]) : ∃ a, l = [a] ∧ f a = b := by
  match l, h with
  | [a], h => exact ⟨a, rfl, by simpa using h⟩
theorem lentP_one : ∀ {as : List Ar} {p i : Nat}, lentP as = [(p, i)] → ∀ {S : SP'} {H : Hp} {e : En} {σ : L2.St} {l : List Vl} {vs : List V} {K : PySem.W.Frag}, argR K S H e σ as l vs →
    ∃ x v, x.own = true ∧ σ[i]? = some (some v) ∧ e[i]? = some (some x) ∧ vs[p]? = some v ∧ ∀ f, repV K S H x f v → envR K S H (l.map some) f (vs.map some)
  | [], _, _, hp, _, _, _, _, _, _, _, _ => by simp [lentP] at hp
  | .va _ :: r, p, i, hp, _, _, _, _, _, _, _, h => by
    obtain ⟨d, l', v, vs', rfl, rfl, h1, h2⟩ := h
    unfold lentP at hp
    obtain ⟨⟨p', i'⟩, e1, e2⟩ := map_one hp
    simp only [Prod.mk.injEq] at e2
    obtain ⟨rfl, rfl⟩ := e2
    obtain ⟨x, u, g1, g2, g3, g4, g5⟩ := lentP_one e1 h2
    refine ⟨x, u, g1, g2, g3, by simpa using g4, fun f hf => ?_⟩
    simp only [List.map_cons]
    unfold envR
    exact ⟨_, _, [], f, rfl, rfl, ⟨rfl, h1⟩, g5 f hf⟩
  | .lent j :: r, p, i, hp, _, _, _, _, _, _, _, h => by
    obtain ⟨x, l', v, vs', rfl, rfl, h0, h1, h2, h3⟩ := h
    simp only [lentP, List.cons.injEq, List.map_eq_nil_iff, Prod.mk.injEq] at hp
    obtain ⟨⟨rfl, rfl⟩, hp⟩ := hp
    refine ⟨x, v, h0, h1, h2, rfl, fun f hf => ?_⟩
    simp only [List.map_cons]
    unfold envR
    exact ⟨_, _, f, [], rfl, by simp, hf, lentP_nil hp h3⟩
theorem puts_one : ∀ {as : List Ar} {p i : Nat} {e : En} {x : Vl}, lentP as = [(p, i)] → puts as [x] e = some (e.set i (some x))
  | [], _, _, _, _, hp => by simp [lentP] at hp
  | .va _ :: r, p, i, e, x, hp => by
    unfold lentP at hp
    obtain ⟨⟨p', i'⟩, e1, e2⟩ := map_one hp
    simp only [Prod.mk.injEq] at e2
    obtain ⟨rfl, rfl⟩ := e2
    exact puts_one (as := r) e1
  | .lent j :: r, p, i, e, x, hp => by
    simp only [lentP, List.cons.injEq, List.map_eq_nil_iff, Prod.mk.injEq] at hp
    obtain ⟨⟨rfl, rfl⟩, hp⟩ := hp
    exact puts_nil (as := r) hp
theorem kill_one : ∀ {as : List Ar} {p i : Nat} {e : En}, lentP as = [(p, i)] → kill as e = e.set i none
  | [], _, _, _, hp => by simp [lentP] at hp
  | .va _ :: r, p, i, e, hp => by
    unfold lentP at hp
    obtain ⟨⟨p', i'⟩, e1, e2⟩ := map_one hp
    simp only [Prod.mk.injEq] at e2
    obtain ⟨rfl, rfl⟩ := e2
    exact kill_one (as := r) e1
  | .lent j :: r, p, i, e, hp => by
    simp only [lentP, List.cons.injEq, List.map_eq_nil_iff, Prod.mk.injEq] at hp
    obtain ⟨⟨rfl, rfl⟩, hp⟩ := hp
    exact kill_nil (as := r) hp
theorem own_ref {K : PySem.W.Frag} {S : SP'} {H : Hp} {x : Vl} {f : List Addr} {v : V} (h : x.own = true) (r : repV K S H x f v) : ∃ a, v = .ref a := by
  cases x with
  | v d => cases h
  | o l => obtain ⟨a, _, e, _⟩ := r; exact ⟨a, e⟩
  | oo l => obtain ⟨a, _, _, e, _⟩ := r; exact ⟨a, e⟩
  | dc l => obtain ⟨a, _, e, _⟩ := r; exact ⟨a, e⟩
  | rg _ _ => cases h
theorem call_tr {as : List Ar} {f : F} {lent : List Nat} {np : Nat} (hl : (lentP as).map (·.1) = lent) (n1 : lent.length ≤ 1) (hn : as.length = np) {σ : L2.St} {H : Hp} {Q : VK} (h : TR X.K X.mg W (repV X.K) (eCall f as) σ H Q) :
    TAr X.K X.mg W as σ H fun vs H1 => spF X.K X.mg np lent f vs H1 Q (fun cls d H => W cls d σ H) := by
  obtain ⟨S, e, fp, wd, p⟩ := h
  refine ⟨S, e, fp, wd, ?_⟩
  unfold eCall at p
  cases ha : args as e with
  | bad => simp only [ha, Rs.then] at p; exact p
  | ex x e1 => simp only [ha, Rs.then] at p; exact p
  | ok l e1 =>
    simp only [ha, Rs.then] at p
    intro S1 H1 fp1 vs ext wd1 rr
    have hlen : ∀ {as : List Ar} {l : List Vl} {vs : List V}, argR X.K S1 H1 e1 σ as l vs → vs.length = as.length := by
      intro as
      induction as with
      | nil => intro l vs h; obtain ⟨_, rfl⟩ := h; rfl
      | cons a r ih =>
        intro l vs h
        cases a with
        | va m => obtain ⟨d, l', v, vs', rfl, rfl, _, h2⟩ := h; simp [ih h2]
        | lent i => obtain ⟨d, l', v, vs', rfl, rfl, _, _, _, h2⟩ := h; simp [ih h2]
    refine ⟨(hlen rr).trans hn, ?_⟩
    match hp : lentP as, lent, hl, n1 with
    | [], [], _, _ =>
      refine ⟨by simp, S1, l, [], ⟨lentP_nil hp rr, Sep.nil, wd1.dom⟩, ?_⟩
      cases hf : f l with
      | bad => simp only [hf] at p; exact p.elim
      | ok x outs =>
        simp only [hf] at p
        intro S2 H2 fx fo v ext2 wd2 sep2 rx
        have w2 := wd2.env
        cases outs with
        | cons y ys => simp only [List.map_cons, List.map_nil] at w2; unfold envR at w2; obtain ⟨_, _, _, _, z, _⟩ := w2; cases z
        | nil =>
          obtain ⟨rfl, _⟩ := w2
          rw [puts_nil hp] at p
          simp only [List.append_nil] at ext2 sep2
          obtain ⟨s1, s2⟩ := Sep.wait (fx := fp1) (fp1 := []) (by simpa using wd1.sep) ext2 sep2
          have ext3 := Ext.wait (fx := fp1) (fp1 := []) (by simpa using ext) ext2
          exact p S2 H2 fp1 fx v (ext3.perm List.perm_append_comm) ⟨envR.stb (ext2.stb Sep.nil) _ _ _ s2 wd1.env, s1.app1, wd2.dom⟩ (s1.perm List.perm_append_comm) rx
      | ex x =>
        simp only [hf] at p
        intro S2 H2 fo c dd ext2 dom2 rx
        rw [kill_nil hp] at p
        have ext2' : Ext S1 H1 [] S2 H2 [] := ext2.sub (by simp)
        obtain ⟨s1, s2⟩ := Sep.wait (fx := fp1) (fp1 := []) (by simpa using wd1.sep) ext2' Sep.nil
        have ext3 := Ext.wait (fx := fp1) (fp1 := []) (by simpa using ext) ext2'
        exact p S2 H2 fp1 c dd (by simpa using ext3) ⟨envR.stb (ext2.stb Sep.nil) _ _ _ s2 wd1.env, s1.app1, dom2⟩ rx
    | [(pp, i)], [q], hl, _ =>
      simp only [List.map_cons, List.map_nil, List.cons.injEq, and_true] at hl
      subst hl
      obtain ⟨x0, v0, g1, g2, g3, g4, g5⟩ := lentP_one hp rr
      obtain ⟨v, f1, f2, f3, q1, q2, q3, q4⟩ := wd1.env.at g3
      rw [g2] at q1
      simp only [Option.some.injEq] at q1
      subst q1 q2
      have pm : (f1 ++ (f2 ++ f3)).Perm ((f1 ++ f3) ++ f2) := by
        rw [List.append_assoc]
        exact List.perm_append_comm.append_left f1
      have sp1 : Sep S1 H1 ((f1 ++ f3) ++ f2) := wd1.sep.perm pm
      have ex1 : Ext S H fp S1 H1 ((f1 ++ f3) ++ f2) := ext.perm pm
      refine ⟨fun p hp => ?_, S1, l, f2, ⟨g5 f2 q3, sp1.app2, wd1.dom⟩, ?_⟩
      · simp only [List.mem_singleton] at hp
        subst hp
        obtain ⟨a, ea⟩ := own_ref g1 q3
        exact ⟨a, by rw [g4, ea]⟩
      cases hf : f l with
      | bad => simp only [hf] at p; exact p.elim
      | ok x outs =>
        simp only [hf] at p
        intro S2 H2 fx fo v ext2 wd2 sep2 rx
        have w2 := wd2.env
        simp only [List.map_cons, List.map_nil] at w2
        rw [g4] at w2
        match outs, w2 with
        | [], w2 => simp only [List.map_nil] at w2; unfold envR at w2; cases w2.2
        | [y], w2 =>
          simp only [List.map_cons, List.map_nil] at w2
          unfold envR at w2
          obtain ⟨v', r', h1, h2, e1', e2', r1, r2⟩ := w2
          simp only [List.cons.injEq, Option.some.injEq] at e1'
          obtain ⟨rfl, rfl⟩ := e1'
          unfold envR at r2
          obtain ⟨rfl, _⟩ := r2
          rw [List.append_nil] at e2'
          subst e2'
          rw [puts_one hp] at p
          obtain ⟨s1, s2⟩ := Sep.wait sp1 ext2 sep2
          have ext3 := Ext.wait ex1 ext2
          have pm2 : ((f1 ++ f3) ++ (fx ++ fo)).Perm (fx ++ (f1 ++ (fo ++ f3))) := by
            rw [← List.append_assoc (f1 ++ f3)]
            have e1 : ((f1 ++ f3) ++ fx).Perm (fx ++ (f1 ++ f3)) := List.perm_append_comm
            refine (e1.append_right fo).trans ?_
            rw [List.append_assoc, List.append_assoc]
            exact (List.perm_append_comm.append_left f1).append_left fx
          have env2 := q4 S2 H2 (some y) fo (some v0) (ext2.stb sp1.app2) s2 ⟨v0, rfl, r1⟩
          rw [set_same g2] at env2
          exact p S2 H2 _ fx v (ext3.perm pm2) ⟨env2, (s1.perm pm2).app2, wd2.dom⟩ (s1.perm pm2) rx
        | y :: z :: ys, w2 =>
          simp only [List.map_cons] at w2
          unfold envR at w2
          obtain ⟨v', r', h1, h2, e1', e2', r1, r2⟩ := w2
          simp only [List.cons.injEq] at e1'
          obtain ⟨_, rfl⟩ := e1'
          unfold envR at r2
          obtain ⟨_, _, _, _, z', _⟩ := r2
          cases z'
      | ex x =>
        simp only [hf] at p
        intro S2 H2 fo c dd ext2 dom2 rx
        rw [kill_one hp] at p
        have ext2' : Ext S1 H1 f2 S2 H2 [] := ext2.sub (by simp)
        obtain ⟨s1, s2⟩ := Sep.wait sp1 ext2' Sep.nil
        have ext3 := Ext.wait ex1 ext2'
        have env2 := q4 S2 H2 none [] (some v0) (ext2.stb sp1.app2) s2 rfl
        rw [set_same g2] at env2
        simp only [List.append_nil] at ext3 s1
        exact p S2 H2 (f1 ++ f3) c dd ext3 ⟨by simpa using env2, s1, dom2⟩ rx
theorem de_call {as : List Ar} {f : F} {lent : List Nat} {k : Nat} {x : Str} {ps : List Str} {es : List Expr} {p : Pos} (F : Fk X.prog X.w X.K X.mg X.base k x ps lent f) (hr : Room k X.A) (tk : Takes X W) (ha : DAr X W (a :: es) as) (hg : Gl X x := by rfl) (hl : (lentP as).map (·.1) = lent := by rfl) (n1 : lent.length ≤ 1 := by decide) (hn : as.length = ps.length := by rfl)
    (hdb : (x == ("__debug__" : Str)) = false := by decide) (he : starEach (a :: es) X.env = (false, eval a X.env) :: starEach es X.env := by rfl) (hpl : (backTo pos (starEach es X.env)).any (·.1) = false := by rfl) : DE X W (.Call (.Name x p) (a :: es) [] pos) (eCall f as) := by
  obtain ⟨fa, fd, h1, h2, h3, h4⟩ := F.ex
  exact ⟨PEm (pe_callS h1 hr hg h2 h3 h4 (fun σ => passAt tk σ) ha.p hdb he hpl) fun σ H Q h => call_tr hl n1 hn h⟩
end
end Fx
end

section
set_option Elab.async false
set_option linter.all false
set_option maxRecDepth 100000
set_option maxHeartbeats 4000000
/-! Wx: own errors: made (own __init__ that asks super's first), raised, caught, their fields. -/
namespace Fx
open PySem PySem.Spec PyProof.Rows L2 PySem.W PySem.Calls PySem.HandSPX

def xA : Arguments := { posonlyargs := [], args := [{ arg := "self", annotation := none, pos := ⟨4, 17, 4, 21⟩ }, { arg := "code", annotation := none, pos := ⟨4, 23, 4, 27⟩ }], vararg := none, kwonlyargs := [], kw_defaults := [], kwarg := none, defaults := [] }
def xB : List Stmt := [.Expr (.Call (.Attribute (.Call (.Name "super" ⟨5, 8, 5, 13⟩) [] [] ⟨5, 8, 5, 15⟩) "__init__" ⟨5, 8, 5, 24⟩) [.Name "code" ⟨5, 25, 5, 29⟩] [] ⟨5, 8, 5, 30⟩) ⟨5, 8, 5, 30⟩,
  .Assign [.Attribute (.Name "self" ⟨6, 8, 6, 12⟩) "code" ⟨6, 8, 6, 17⟩] (.Name "code" ⟨6, 20, 6, 24⟩) ⟨6, 8, 6, 24⟩]
def xS : Scope := { kind := .function, names := [(PySem.Str.ofString "self", .local), (PySem.Str.ofString "code", .local), (PySem.Str.ofString "__class__", .free), (PySem.Str.ofString "super", .globalImplicit)], isGenerator := false, isCoroutine := false, more := [] }
/-- what the written part says of an error's class at C whose __init__ (at fI) is that of D -/
structure XcTxt (P : Program) (K : Frag) (mg : Str → Option Value) (qual : Str) (C fI : Addr) : Prop where
  cls : ∃ nm q N bs bm sn sub ab col dd k0 k1 k2 k3 k5, K.lookup C = some (excClassObj nm q C N bs bm true sn sub ab col dd k0 k1 k2 k3 k5 "ValueError.__new__") ∧ refsVE bm = true
  sa : findIn K (.ref C) "__setattr__" = some (some (.builtin "object.__setattr__"))
  noN : findIn K (.ref C) "code" = some none
  iC : findIn K (.ref C) "__init__" = some (some (.ref fI))
  tC : typeIn K (.ref fI) = some (.type "function")
  kC : keepIn K (.ref C) = true
  exC : subIn K (.ref C) (.type "BaseException") = some true
  veC : subIn K (.ref C) (.type "ValueError") = some true
  tyC : typeIn K (.ref C) = some (.type "type")
  tp : nsIn K cStatics "thirdparty.any" = some none
  sup : nsIn K mainGlobals "super" = some none
  file : ∃ (D cda cc : Addr) (ccl cl : Value) (cdd cld : Option Addr) (ccs csl : Array (Option Value)) (vs : Array Value) (file : Str) (tf : Tok) (cdD : ClassData) (oc : Value) (od : Option Addr) (doc pm : Value) (an : Option Addr) (ct : Value) (osl : Array (Option Value)),
    K.lookup cda = some ⟨ccl, cdd, .fields vs, ccs⟩ ∧ vs[2]? = some (.str file tf) ∧ ((P.main.file : Str) == file) = true ∧ K.lookup cc = some ⟨cl, cld, .cell (some (.ref D)), csl⟩ ∧ clsIn K D = some cdD ∧ mroIn K C (.ref D) = some true ∧
    ks_superIn K C D "__init__" = some (some (.builtin "ValueError.__init__")) ∧ (P.main.scope.names.lookup ("super" : Str)).isSome = false ∧
    K.lookup fI = some ⟨oc, od, .func (ksFn "__init__" qual xA xB xS .none .none doc pm an (.ref cda) ct cc), osl⟩ ∧ codeIn K (.ref cda) qual = true
structure InitEnd (h h' : Heap) (x C dx t1 : Addr) (v : Value) : Prop where
  keep : ∀ b o, b ≠ x → h.get? b = some o → h'.get? b = some o
  obj : h'.get? x = some { cls := .ref C, dict := some dx, data := .fields #[.ref t1, .none, .none, .none, .bool false, .none] }
  dbig : h.objs.size ≤ dx
  dne : dx ≠ x
  ns : h'.Ns1 dx (fun y => if y = "code" then some v else none)
/-- a made error -/
structure OwnMade (h h' : Heap) (e C d : Addr) (v : Value) : Prop where
  keep : ∀ b o, h.get? b = some o → h'.get? b = some o
  new : h.objs.size ≤ e
  obj : ∃ oe vs, h'.get? e = some oe ∧ oe.cls = .ref C ∧ oe.dict = some d ∧ oe.data = .fields vs ∧ vs[1]? = some .none
  dbig : h.objs.size ≤ d
  dne : d ≠ e
  ns : h'.Ns1 d (fun y => if y = "code" then some v else none)
theorem one_size (v : Value) : [v].length ≤ sizeLine := by
  rw [sizeLine_eq]
  exact (by decide : 1 ≤ 16777216)
theorem ldX {M : Model} {s : Shared} {name : Str} {scope : Scope} {L a cc : Addr} {cd : Value} {m : Str → Option Value} {x : Str} {pos : Pos} {v : Value} {Q : Value → Shared → Prop} {A : Around} {E : Value → Shared → Prop} (hn : s.heap.Ns L m) (hv : m x = some v) (h : Q v s)
    (hk : scope.kind = .function := by rfl) (hl : (ksEnv name scope L a cd cc).kindOf x = some .local := by rfl) (hd : (x == ("__debug__" : Str)) = false := by decide) :
    wpAny M A (eval (.Name x pos) (ksEnv name scope L a cd cc)) Q E s := wpAny_Name (wpAny_loadName_local hk hl hn hv h) hd
section
variable {prog : Program} {w : World} {A : Around} {E : Value → Shared → Prop} {R : Result → Shared → Prop} {s : Shared} {K : Frag} {mg mb : Str → Option Value} {C fI : Addr} {qual : Str}
theorem xc_init (T : XcTxt prog K mg qual C fI) {x t0 : Addr} {v : Value} (X : K.In s.heap) (hg : s.heap.Ns mainGlobals mg) (hms : mg "super" = none) (hb : s.heap.Ns builtinsNs mb) (hmb : mb "super" = some (.type "super")) (hlim : s.heap.NoLimit) (hx : s.heap.get? x = some (excO C t0)) (hnx : K.lookup x = none) (hroom : A.depth < recursionLimit)
    (hq : ∀ h' tk dx t1, InitEnd s.heap h' x C dx t1 v → R (.ok (.ret .none)) { s with heap := h', toks := tk }) :
    codeAny (model prog w) A (.call (.ref fI) ⟨[.ref x, v], []⟩) R s := by
  obtain ⟨D, cda, cc, ccl, cl, cdd, cld, ccs, csl, vs, file, tf, cdD, oc, od, doc, pm, an, ct, osl, e1, e2, e3, e4, e5, e6, e7, e8, ho, hcd⟩ := T.file
  obtain ⟨nm, q, N, bs, bm, sn, sub, ab, col, dd, k0, k1, k2, k3, k5, hC, hbm⟩ := T.cls
  have hcl : clsIn K C = some { name := nm, bases := bs, mro := .ref C :: bm, ns := N, qualname := q, hasDict := true, slotNames := sn, subclasses := sub, abstract := ab, collection := col, hasDel := false } := by unfold clsIn; rw [hC] <;> rfl
  refine ks_codeAny_call_defAt (fd := ksFn "__init__" qual xA xB xS .none .none doc pm an (.ref cda) ct cc) (body := xB) (binds := [("self", .ref x), ("code", v)]) hroom (X _ _ ho) rfl hlim (codeRec_of X hcd) rfl (BindsTo.of_eq (by first | rfl | with_unfolding_all rfl)) (show ∀ x ∈ xS.names, x.2 ≠ .cell by decide) (fun y hy => by
    simp only [List.mem_cons, List.not_mem_nil, or_false] at hy
    rcases hy with rfl | rfl <;> rfl) (fun h₁ hns k => ?_)
  have hxL : s.heap.objs.size ≠ x := Nat.ne_of_gt (Heap.lt_size hx)
  have X₁ : K.In h₁ := X.keeps k
  have hx₁ := k _ _ hx
  show PySem.wpAt (model prog w) _ (.func _ (ksEnv qual xS s.heap.objs.size fI (.ref cda) cc)) (execs _ (ksEnv qual xS s.heap.objs.size fI (.ref cda) cc)) _ _ _
  refine ks_wpAt_execs_cons (ks_wpAt_Expr_any ?_)
  refine ks_wpAt_MethodCall ?_
  obtain ⟨oD, hD1, hD2⟩ : ∃ oD, h₁.get? D = some oD ∧ oD.data = .cls cdD := by
    unfold clsIn at e5
    split at e5
    · rename_i c d cd' sl ho
      cases e5
      exact ⟨_, X₁ _ _ ho, rfl⟩
    · cases e5
  refine ks_wpAt_super_base (env := ksEnv qual xS s.heap.objs.size fI (.ref cda) cc) (ar := { arg := "self", annotation := none, pos := ⟨4, 17, 4, 21⟩ }) rfl rfl (by decide) rfl (X₁ _ _ ho) rfl rfl rfl (X₁ _ _ e1) rfl e2 e3 e8 ?_
  refine ks_loadName_global rfl rfl (loadGlobal_builtin (env := ksEnv qual xS s.heap.objs.size fI (.ref cda) cc) (hg.keeps k) hms (hb.keeps k) hmb ⟨rfl, ?_⟩)
  refine wpAny_loadName_free rfl rfl rfl ⟨_, X₁ _ _ e4, rfl⟩ ?_
  refine wpAny_loadName_local (v := .ref x) rfl rfl hns (by first | rfl | with_unfolding_all rfl | kernel_rfl) ?_
  refine ks_wpAny_isType_cls hD1 hD2 ⟨rfl, ?_⟩
  refine ks_wpAny_call_super hD1 hD2 hx₁ rfl (fun c e => by cases e) (looks_mroIn X₁ e6) (fun h₂ so k₂ => ?_)
  have X₂ : K.In h₂ := X₁.keeps k₂
  have hx₂ := k₂ _ _ hx₁
  have I2 : InstAt h₂ x (excO C t0) C none := ⟨hx₂, rfl, rfl, trivial⟩
  have hI : Looks (model prog w) h₂ (isInstance (.ref x) (.type "ValueError")) true := I2.type.andThen (looks_subIn X₂ T.veC)
  unfold ks_superIn at e7
  rw [hcl] at e7
  refine kxs_getMethod kxs_ValueError so (looks_opaque X₂ T.tp) (l₀ := .ref C :: bm) (fun A Q E s k q => wpAny_bind ((looks_clsIn X₂ hcl) A _ E s k (wpAny_pure q))) rfl X₂ e7 hI (fun z => by
    subst z
    rw [X₁ _ _ hC] at hx₁
    cases hx₁) (by decide) ?_
  -- the call
  show wpAny (model prog w) _ (callWith ⟨5, 8, 5, 30⟩ (.ref h₂.objs.size) [] (backTo ⟨5, 8, 5, 30⟩ (starEach [.Name "code" ⟨5, 25, 5, 29⟩] (ksEnv qual xS s.heap.objs.size fI (.ref cda) cc))) []) _ _ _
  have k₃ : ∀ b o, h₂.get? b = some o → (h₂.push (kxs_mw "ValueError.__init__" x)).get? b = some o := fun b o e => Heap.get?_push_of_some _ e
  have hu : (h₂.push (kxs_mw "ValueError.__init__" x)).get? h₂.objs.size = some (kxs_mw "ValueError.__init__" x) := Heap.get?_push_at rfl rfl
  refine kxs_callWith (i := "ValueError.__init__") (x := x) rfl (evalArgs_plain (x := eval (.Name "code" ⟨5, 25, 5, 29⟩) (ksEnv qual xS s.heap.objs.size fI (.ref cda) cc)) (rest := []) (spliced_cons ?_))
  refine ldX (v := v) ((hns.keeps k₂).keeps k₃) (by first | rfl | with_unfolding_all rfl | kernel_rfl) (spliced_nil ⟨hu, ?_⟩)
  have hx₃ := k₃ _ _ hx₂
  have hC₃ := k₃ _ _ (X₂ _ _ hC)
  refine wpAny_call (codeAny_of_tree ?_)
  show wpAny _ _ (callAny (.ref h₂.objs.size) ⟨[v], []⟩) _ _ _
  simp only [callAny]
  refine wpAny_bind (wpAny_load hu ?_)
  simp only [kxs_mw, show (Value.type "method-wrapper" == Value.type "method" || Value.type "method-wrapper" == Value.type "builtin_function_or_method" || Value.type "method-wrapper" == Value.type "method-wrapper") = true by decide, if_true]
  refine KFB.if_so (by decide) ?_
  refine wpAny_bind (check_bound_init F.excBase_ValueError.toExcCallFacts hC₃ hx₃ rfl ?_)
  refine wpAny_bind (wpAny_pure (wpAny_pure ?_))
  refine ⟨plainId_quiet F.excBase_ValueError.init.plain _, codeAny_builtin F.excBase_ValueError.initEntry ?_⟩
  refine exc_init_tree (cls := .ref C) (t0 := t0) (dv := none) (c2 := .none) (c3 := .none) (b4 := .bool false) hx₃ (one_size v) fun h₄ k₄ hx₄ ht₄ => ?_
  have X₃ : K.In (h₂.push (kxs_mw "ValueError.__init__" x)) := X₂.keeps k₃
  have X₄ : K.In h₄ := fun a o e => k₄ a o (fun y => by rw [y, hnx] at e; cases e) (X₃ a o e)
  have hns₄ : h₄.Ns s.heap.objs.size (fun y => [(("self" : Str), Value.ref x), (("code" : Str), v)].reverse.lookup y) := by
    obtain ⟨oL, es, ep, hL, r⟩ := (hns.keeps k₂).keeps k₃
    exact ⟨oL, es, ep, k₄ _ _ hxL hL, r⟩
  show PySem.wpAt _ _ _ (execs _ _) _ _ _
  refine wpAt_of_wpAny ?_
  refine wpAny_execs_cons (plainObj_wpAny_Assign_Attribute ?_)
  refine ldX (v := v) hns₄ (by first | rfl | with_unfolding_all rfl | kernel_rfl) (ldX (v := .ref x) hns₄ (by first | rfl | with_unfolding_all rfl | kernel_rfl) ?_)
  refine set_plain X₄ (ox := excO C (h₂.push (kxs_mw "ValueError.__init__" x)).objs.size) (od := none) ⟨hx₄, rfl, rfl, trivial⟩ T.sa ?_
  refine HandSPX.exc_osa X₄ hx₄ hcl (show HandSPX.refsVE (.ref C :: bm) = true from hbm) rfl T.noN (fun h₅ tk₅ dx k₅ dn dne hx₅ hn₅ => ?_)
  show wpAny _ _ (execs _ _) _ _ _
  have z : s.heap.objs.size < h₄.objs.size := hns₄.lt
  exact wpAny_execs_nil (hq h₅ tk₅ dx _ ⟨fun b o hb e => k₅ b o hb (k₄ b o hb (k₃ b o (k₂ b o (k b o e)))), hx₅, Nat.le_of_lt (Nat.lt_of_lt_of_le z dn), dne, hn₅⟩)
theorem xc_made (T : XcTxt prog K mg qual C fI) {v : Value} (X : K.In s.heap) (hg : s.heap.Ns mainGlobals mg) (hms : mg "super" = none) (hb : s.heap.Ns builtinsNs mb) (hmb : mb "super" = some (.type "super")) (hlim : s.heap.NoLimit) (hroom : A.depth + 1 < recursionLimit)
    (hq : ∀ h' tk e d, OwnMade s.heap h' e C d v → R (.ok (.ret (.ref e))) { s with heap := h', toks := tk }) :
    codeAny (model prog w) A (.call (.ref C) ⟨[v], []⟩) R s := by
  obtain ⟨nm, q, N, bs, bm, sn, sub, ab, col, dd, k0, k1, k2, k3, k5, hC, hbm⟩ := T.cls
  obtain ⟨hp, g, dr, tk, os⟩ := s
  have k : ∀ b o, hp.get? b = some o → ((hp.push (kdv_tup [v])).push (excO C hp.objs.size)).get? b = some o := fun b o e => Heap.get?_push_of_some _ (Heap.get?_push_of_some _ e)
  have hget : ((hp.push (kdv_tup [v])).push (excO C hp.objs.size)).get? (hp.objs.size + 1) = some (excO C hp.objs.size) := by heap_get
  have hnx : K.lookup (hp.objs.size + 1) = none := by
    cases e : K.lookup (hp.objs.size + 1) with
    | none => rfl
    | some o =>
      have z : hp.get? (hp.objs.size + 1) = some o := X _ _ e
      exact absurd (Nat.lt_of_succ_lt (Heap.lt_size z)) (Nat.lt_irrefl _)
  refine HandSPX.call_own F.excBase_ValueError (fun X => HandSPX.refsVE_contains X bm hbm) (X _ _ hC) (looks_findIn X T.iC) (fun self => bind_fn X self T.tC) (one_size v) ?_
  refine xc_init (s := ⟨(hp.push (kdv_tup [v])).push (excO C hp.objs.size), g, dr, tk, os⟩) T (X.keeps k) (hg.keeps k) hms (hb.keeps k) hmb (hlim.keeps k) hget hnx ?_ fun h' tk' dx t1 ⟨k', hx, dn, dne, hns⟩ => ?_
  · show A.depth + 1 < recursionLimit
    exact hroom
  · have old : ∀ b o, hp.get? b = some o → h'.get? b = some o := fun b o e => k' b o (Nat.ne_of_lt (Nat.lt_succ_of_lt (Heap.lt_size e))) (k b o e)
    have z : hp.objs.size + 1 + 1 ≤ dx := by
      first
        | (simpa only [Heap.size_push] using dn)
        | exact dn
        | (have q := dn; rw [Heap.size_push, Heap.size_push] at q; exact q)
    exact ⟨rfl, hq h' tk' (hp.objs.size + 1) dx ⟨old, Nat.le_succ _, ⟨_, _, hx, rfl, rfl, rfl, rfl⟩, Nat.le_trans (Nat.le_trans (Nat.le_succ _) (Nat.le_succ _)) z, dne, hns⟩⟩
end
theorem relO_code {v : V} {v' : Value} (r : RelV v v') (f : Str) : RelO (List.lookup f [(("code" : Str), v)]) (if f = "code" then some v' else none) := by
  by_cases hw : f = "code"
  · subst hw
    rw [if_pos rfl]
    have q : List.lookup ("code" : Str) [(("code" : Str), v)] = some v := by simp [List.lookup]
    rw [q]
    exact r
  · rw [if_neg hw]
    have qw : (f == ("code" : Str)) = false := by simpa using hw
    have q2 : List.lookup f [(("code" : Str), v)] = none := by simp [List.lookup, qw]
    rw [q2]
    trivial
section
variable {X : Cx} {C fI : Addr} {qual : Str} {W : WX}
/-- C(e) -/
def tMkX (C : Addr) (ta : TA) : L2.St → Hp → XK → Prop := fun σ H Q => ta σ H fun vs H1 => ∃ v, vs = [v] ∧ ∀ d, H1 d = none → Q (.ref C) (some d) (upd H1 d (.xd [(("code" : Str), v)]))
theorem pmk_x {cn : Str} {a : Expr} {ta : TA} {p pos : Pos} {k : Nat} (T : XcTxt X.prog X.K X.mg qual C fI) (gC : X.mg cn = some (.ref C)) (gs : X.mg "super" = none) (hr : Room k X.A) (ha : PA X [a] ta) (hg : Gl X cn := by rfl) (hdb : (cn == ("__debug__" : Str)) = false := by decide)
    (he : starEach (a :: []) X.env = (false, eval a X.env) :: starEach [] X.env := by rfl) (hpl : (backTo pos (starEach [] X.env)).any (·.1) = false := by rfl) :
    PMk X (.Call (.Name cn p) [a] [] pos) (tMkX C ta) := by
  intro pins s σ H Q I h
  refine wpAny_Call_Name_kw (ld_glob I hg gC ?_ hdb)
  refine PySem.W.callWith_K (h₀ := X.base) I.ok.mod.kin T.kC (thn (ha.run pos pins s σ H _ I h) fun us s1 hh => ?_) he hpl
  obtain ⟨vs, H1, I1, r1, v, ev, q1⟩ := hh
  subst ev
  refine ⟨I1.kIn, ?_⟩
  cases r1 with
  | cons rv rn =>
    rename_i v' us'
    cases rn
    show wpAny _ _ (call (.ref C) [v']) _ _ _
    have hlim := I1.nolimit
    have hgl := I1.mod.glob.keeps I1.bk
    obtain ⟨mb, hblt, hboot⟩ := I1.mod.blt
    have hbl := hblt.keeps I1.bk
    obtain ⟨hp, g, dr, tk, os⟩ := s1
    refine wpAny_call (xc_made T I1.kIn hgl gs hbl ((hboot _ (by decide)).trans (by decide +kernel)) hlim (by have := hr.dp; omega) fun h' tk' e d M => ?_)
    show MkP X pins σ Q (.ref e) ⟨h', g, dr, tk', os⟩
    obtain ⟨oe, fv, hoe, hc, hd, hdat, h1⟩ := M.obj
    have hns := M.ns
    obtain ⟨G', g1, g2⟩ := restrict h' fun b => decide (b ≠ e)
    have gk : ∀ b, b ≠ e → G'.get? b = h'.get? b := fun b hb => g1 b (decide_eq_true hb)
    have ge : G'.get? e = none := g2 e (by simp)
    have old : ∀ b o, hp.get? b = some o → G'.get? b = some o := fun b o q => (gk b (Nat.ne_of_lt (Nat.lt_of_lt_of_le (Heap.lt_size q) M.new))).trans (M.keep b o q)
    have ob : ObjOk X.prog X.w (upd H1 d (.xd [(("code" : Str), v)])) G' d (.xd [(("code" : Str), v)]) :=
      ⟨_, hns.at (fun o q => (gk d M.dne).trans q), fun f => relO_code rv f⟩
    have J : Inv X pins σ (upd H1 d (.xd [(("code" : Str), v)])) ⟨G', g, dr, tk', os⟩ := I1.laid (t' := tk') old M.dbig ob
    refine ⟨e, oe, fv, ⟨G', g, dr, tk', os⟩, _, .ref C, some d, rfl, J, fun b o q => ?_, ge, hoe, ⟨hc, hd⟩, hdat, h1, ?_, rfl, I1.bare, raises_own T.exC T.tyC, q1 d (I1.hok.fresh M.dbig)⟩
    · by_cases hb : b = e
      · have q' : G'.get? b = some o := q
        rw [hb, ge] at q'; cases q'
      · exact (gk b hb).symm.trans q
    · rw [upd_ne (Ne.symm M.dne)]
      exact I1.hok.fresh M.new
/-- raise C(e) -/
theorem ds_raise {B : List (Nat × Addr)} {cn : String} {m : M Vl} {a : Expr} {p pos pos2 : Pos} {k : Nat} (hc : X.calm = true) (T : XcTxt X.prog X.K X.mg qual C fI) (gC : X.mg (Str.ofString cn) = some (.ref C)) (gs : X.mg "super" = none) (hr : Room k X.A) (tk : Takes X W) (ha : DE X W a m) (hg : Gl X (Str.ofString cn) := by rfl) (hdb : ((Str.ofString cn) == ("__debug__" : Str)) = false := by decide)
    (he : starEach (a :: []) X.env = (false, eval a X.env) :: starEach [] X.env := by rfl) (hpl : (backTo pos (starEach [] X.env)).any (·.1) = false := by rfl) :
    DS X B W (.Raise (some (.Call (.Name (Str.ofString cn) p) [a] [] pos)) none pos2) (sRaise cn m) := by
  refine ⟨PSm (ps_raise hc tk (pmk_x T gC gs hr (pa_cons ha.p pa_nil he) hg hdb he hpl)) fun D σ H ⟨S, e, fp, wd, bo, h⟩ => ⟨S, e, fp, wd, ?_⟩⟩
  unfold sRaise at h
  cases hm : m e with
  | ex _ _ => simp only [hm] at h; exact exW.of bo h
  | bad => simp only [hm] at h; exact h
  | ok x e1 =>
    simp only [hm] at h
    intro S1 H1 fp1 fx v ext wd1 sep rx
    cases hx : x.d with
    | none => simp only [hx] at h; exact h.elim
    | some d =>
      simp only [hx] at h
      obtain ⟨ext1, wd1', rd⟩ := froze_wait ext wd1 sep hx rx
      refine ⟨v, rfl, fun da hda => ?_⟩
      have k : ∀ b o, H1 b = some o → upd H1 da (.xd [(("code" : Str), v)]) b = some o := fun b o q => by rw [upd_ne (ne_of_none q hda)]; exact q
      refine h _ _ fp1 σ (.ref C) (some da) (ext1.trans ((Ext.refl _ _ _).grow (fz := []) k (fun _ q => absurd q (by simp)))) (wd1'.grow k) bo ⟨C, da, _, gC, rfl, rfl, upd_same, v, [], rfl, rep.stb (Stb.grow k) d v rd, rfl⟩
end
end Fx
end

section
set_option Elab.async false
set_option linter.all false
set_option maxRecDepth 100000
set_option maxHeartbeats 4000000
/-! Wy: try .. except X as e. -/
namespace Fx
open PySem PySem.Spec PyProof.Rows L2 PySem.W PySem.Calls PySem.HandSPX

/-- an error's class by its name -/
structure Xk (P : Program) (K : Frag) (mg : Str → Option Value) (c : String) : Prop where
  ex : ∃ C fI qual, mg (Str.ofString c) = some (.ref C) ∧ XcTxt P K mg qual C fI ∧ XfC K C
/-- whether «except c'» takes a c -/
def Em (K : Frag) (mg : Str → Option Value) (c c' : String) (b : Bool) : Prop := ∀ C C', mg (Str.ofString c) = some (.ref C) → mg (Str.ofString c') = some (.ref C') → exmOne K (.ref C) (.ref C') = some b
theorem Wd.clear {K : Frag} {S : SP'} {H : Hp} {e : En} {fp : List Addr} {σ : L2.St} {i : Nat} {w : Option V} (wd : Wd K S H e fp σ) : ∃ fp', Wd K S H (e.set i none) fp' (σ.set i w) ∧ (∀ a ∈ fp', a ∈ fp) ∧ ∃ fr, fp.Perm (fp' ++ fr) := by
  by_cases hi : i < e.length
  · obtain ⟨f1, f2, f3, ef, k⟩ := wd.env.put hi
    subst ef
    have pm : (f1 ++ (f2 ++ f3)).Perm (f2 ++ (f1 ++ f3)) := by
      rw [← List.append_assoc, ← List.append_assoc]
      exact List.perm_append_comm.append_right f3
    refine ⟨f1 ++ ([] ++ f3), ⟨k S H none [] w (Stb.refl S H) (fun _ _ => rfl) rfl, by simpa using (wd.sep.perm pm).app2, wd.dom⟩, fun a q => ?_, f2, by simpa using pm.trans List.perm_append_comm⟩
    simp only [List.nil_append, List.mem_append] at q ⊢
    rcases q with q | q
    · exact .inl q
    · exact .inr (.inr q)
  · have l := wd.env.len
    rw [List.set_eq_of_length_le (by omega), List.set_eq_of_length_le (by omega)]
    exact ⟨fp, wd, fun _ h => h, [], by simp⟩
theorem bOk.set {B : List (Nat × Addr)} {σ : L2.St} {i : Nat} {w : Option V} (h : bOk B σ) (hB : ∀ p ∈ B, p.1 ≠ i) : bOk B (σ.set i w) := fun p hp => by
  rw [List.getElem?_set_ne (fun z => hB p hp z.symm)]
  exact h p hp
/-- a statement of the suite that holds the error x at a -/
def TXx (X : Cx) (B : List (Nat × Addr)) (i : Nat) (a : Addr) (cls : Value) (d : Option Addr) (c : Ex → C) : TS := fun D σ H =>
  ∃ x S e fp, Xk X.prog X.K X.mg x.cls ∧ Wd X.K S H e fp σ ∧ bOk B σ ∧ σ[i]? = some (some (.ref a)) ∧ exR X.K X.mg S H x cls d ∧ sPost X.K X.mg B W0 D S H fp (c x e)
/-- the suite's one statement -/
def DX (X : Cx) (B : List (Nat × Addr)) (i : Nat) (st : Stmt) (c : Ex → C) : Prop :=
  ∀ (a : Addr) (oe : Obj) (cls : Value) (d : Option Addr) (pn : List (Addr × Obj)), Zc cls d oe → (∃ vs, oe.data = .fields vs) → PS (X.suite a ((a, oe) :: pn)) st (TXx X B i a cls d c)
section
variable {X : Cx} {B : List (Nat × Addr)} {W : WX}
theorem dx_lift {i : Nat} {st : Stmt} {c : C} (h : ∀ (a : Addr) (pn : List (Addr × Obj)), DS (X.suite a pn) B W0 st c) : DX X B i st (fun _ => c) := fun a oe cls d pn _ _ =>
  PSm (h a ((a, oe) :: pn)).p fun D σ H ⟨x, S, e, fp, _, wd, bo, _, _, p⟩ => ⟨S, e, fp, wd, bo, p⟩
theorem fld_at {K : Frag} {S : SP'} {H : Hp} {n : String} {d : D} : ∀ {l : List (String × D)} {fs : List (Str × V)}, fldR K S H l fs → l.lookup n = some d → (∀ p ∈ l, Str.ofString p.1 = Str.ofString n → p.1 = n) → ∃ v, fs.lookup (Str.ofString n) = some v ∧ rep K S H d v
  | [], _, _, h, _ => by simp at h
  | (m, d') :: l, _, r, h, k => by
    obtain ⟨v, q, rfl, rv, rr⟩ := r
    by_cases hm : n = m
    · subst hm
      simp [List.lookup] at h
      subst h
      exact ⟨v, by simp [List.lookup], rv⟩
    · have h1 : (n == m) = false := by simpa using hm
      simp only [List.lookup, h1] at h
      obtain ⟨v', e1, e2⟩ := fld_at rr h fun p hp => k p (List.mem_cons_of_mem _ hp)
      have h2 : (Str.ofString n == Str.ofString m) = false := by
        simp only [beq_eq_false_iff_ne, ne_eq]
        exact fun z => hm (k (m, d') (by simp) z.symm).symm
      exact ⟨v', by simp only [List.lookup, h2]; exact e1, e2⟩
/-- e.code -/
theorem code_at {K : Frag} {mg : Str → Option Value} {S : SP'} {H : Hp} {x : Ex} {cls : Value} {dd : Option Addr} {d : D} (r : exR K mg S H x cls dd) (h : x.fs = [("code", d)]) : ∃ C da fs v, mg (Str.ofString x.cls) = some (.ref C) ∧ cls = .ref C ∧ dd = some da ∧ H da = some (.xd fs) ∧ fs.lookup ("code" : Str) = some v ∧ rep K S H d v := by
  obtain ⟨C, da, fs, h1, h2, h3, h4, h5⟩ := r
  rw [h] at h5
  obtain ⟨v, q, rfl, rv, rfl⟩ := h5
  exact ⟨C, da, _, v, h1, h2, h3, h4, by simp [List.lookup], rv⟩
theorem eCode_or (x : Ex) (e : En) : (∃ d, x.fs = [("code", d)] ∧ eCode x e = .ok (.v d) e) ∨ eCode x e = .bad := by
  unfold eCode
  split
  · rename_i d hx
    exact .inl ⟨d, hx, rfl⟩
  · exact .inr rfl
theorem pe_code {a : Addr} {oe : Obj} {cls : Value} {d : Option Addr} {pn : List (Addr × Obj)} {i : Nat} {n : Str} {p pos : Pos} {C : Addr} (T : XfC X.K C) (hno : findIn X.K (.ref C) "code" = some none) (hz : Zc cls d oe) (hf : ∃ vs, oe.data = .fields vs) (hN : X.N[i]? = some n) (hv : Vis X.env.scope n) (hd : (n == ("__debug__" : Str)) = false)
    (hcd : (n == ("__classdict__" : Str)) = false) (hb : attributeBase (.Name n p) "code" X.env (eval (.Name n p) X.env) = eval (.Name n p) X.env) :
    PE (X.suite a ((a, oe) :: pn)) (.Attribute (.Name n p) "code" pos) (tXf a cls d C "code" (tVar i)) :=
  pe_xf T hno hz hf (pe_var (X := X.suite a ((a, oe) :: pn)) hN hv hd hcd) hb
/-- return e.code -/
theorem dx_ret {i : Nat} {n : Str} {p p2 pos : Pos} (hN : X.N[i]? = some n := by rfl) (hv : Vis X.env.scope n := by first | exact Or.inl rfl | exact Or.inr (Or.inl rfl) | exact Or.inr (Or.inr rfl)) (hd : (n == ("__debug__" : Str)) = false := by decide)
    (hcd : (n == ("__classdict__" : Str)) = false := by decide) (hb : attributeBase (.Name n p) "code" X.env (eval (.Name n p) X.env) = eval (.Name n p) X.env := by rfl) :
    DX X B i (.Return (some (.Attribute (.Name n p) "code" p2)) pos) (fun x => sRet (eCode x)) := fun a oe cls d pn hz hf => by
  by_cases hc : ∃ C, cls = .ref C ∧ XfC X.K C ∧ findIn X.K (.ref C) "code" = some none
  · obtain ⟨C, hcl, T, hno⟩ := hc
    refine PSm (ps_ret (pe_code T hno hz hf hN hv hd hcd hb)) fun D σ H h => ?_
    obtain ⟨x, S, e, fp, xk, wd, bo, hs, xr, h⟩ := h
    dsimp only at h
    unfold sRet at h
    rcases eCode_or x e with ⟨dd, e1, e0⟩ | e0
    rotate_left
    · rw [e0] at h; exact h.elim
    rw [e0] at h
    obtain ⟨C', da, fs, v, _, e2, e3, e4, e5, rv⟩ := code_at xr e1
    rw [hcl] at e2
    cases e2
    exact ⟨.ref a, hs, rfl, hcl, da, fs, v, e3, e4, e5, h S H fp [] σ v (Ext.refl _ _ _) wd wd.sep bo ⟨rfl, rv⟩⟩
  · exact ⟨fun pins s σ H D I h => by
      obtain ⟨x, S, e, fp, xk, wd, bo, hs, xr, h⟩ := h
      obtain ⟨C, fI, qual, g1, g2, g3⟩ := xk.ex
      obtain ⟨C', da, fs, g4, g5, _⟩ := xr
      rw [g1] at g4
      cases g4
      exact absurd ⟨C, g5, g3, g2.noN⟩ hc⟩
/-- name.append(e.code) -/
theorem dx_app {i : Nat} (k : Nat) {y n : Str} {py apos p p2 pos pos' : Pos} (hN : X.N[i]? = some n := by rfl) (hv : Vis X.env.scope n := by first | exact Or.inl rfl | exact Or.inr (Or.inl rfl) | exact Or.inr (Or.inr rfl)) (hd : (n == ("__debug__" : Str)) = false := by decide)
    (hcd : (n == ("__classdict__" : Str)) = false := by decide) (hb : attributeBase (.Name n p) "code" X.env (eval (.Name n p) X.env) = eval (.Name n p) X.env := by rfl)
    (hN2 : X.N[k]? = some y := by rfl) (hv2 : Vis X.env.scope y := by first | exact Or.inl rfl | exact Or.inr (Or.inl rfl) | exact Or.inr (Or.inr rfl)) (hd2 : (y == ("__debug__" : Str)) = false := by decide) (hcd2 : (y == ("__classdict__" : Str)) = false := by decide)
    (he : starEach ((.Attribute (.Name n p) "code" p2) :: []) X.env = (false, eval (.Attribute (.Name n p) "code" p2) X.env) :: starEach [] X.env := by rfl) (hb2 : attributeBase (.Name y py) "append" X.env (eval (.Name y py) X.env) = eval (.Name y py) X.env := by rfl)
    (hfew : ((backTo pos (starEach ((.Attribute (.Name n p) "code" p2) :: []) X.env)).all (fun x => !x.1) && (backToKw pos (keywordEach [] X.env)).all (fun x => x.1.isSome) && decide (([(.Attribute (.Name n p) "code" p2)] : List Expr).length + ([] : List Keyword).length + (if ([] : List Keyword).isEmpty then 0 else 1) < 30)) = true := by rfl)
    (hline : (apos.endLine == pos.line) = true := by rfl) (hpl : (backTo pos (starEach [] X.env)).any (·.1) = false := by rfl) (hs : swapsWith (.Call (.Attribute (.Name y py) "append" apos) [.Attribute (.Name n p) "code" p2] [] pos) none pos'.line X.env = pure false := by rfl) :
    DX X B i (.Expr (.Call (.Attribute (.Name y py) "append" apos) [.Attribute (.Name n p) "code" p2] [] pos) pos') (fun x => sDrop (mApp k (eCode x))) := fun a oe cls d pn hz hf => by
  by_cases hc : ∃ C, cls = .ref C ∧ XfC X.K C ∧ findIn X.K (.ref C) "code" = some none
  · obtain ⟨C, hcl, T, hno⟩ := hc
    refine PSm (ps_expr (pe_bm PySem.F.plainAttrs_list PySem.F.slot_list_append PySem.F.type_list_append mt_append (pe_var (X := X.suite a ((a, oe) :: pn)) hN2 hv2 hd2 hcd2) (pa_cons (pe_code T hno hz hf hN hv hd hcd hb) pa_nil he) hb2 hfew hline he hpl) hs) fun D σ H h => ?_
    obtain ⟨x, S, e, fp, xk, wd, bo, hs, xr, h⟩ := h
    dsimp only at h
    unfold sDrop mApp at h
    split at h
    · rename_i y e' hm
      split at hm
      · rename_i l0 he0
        obtain ⟨a0, vs0, h1, h2, h3, _⟩ := wd.own he0
        rcases eCode_or x e with ⟨dd, e1, e0⟩ | e0
        rotate_left
        · rw [e0] at hm; simp at hm
        rw [e0] at hm
        simp only [Rs.then, Vl.d, he0] at hm
        split at hm
        · rename_i hz
          cases hm
          obtain ⟨C', da, fs, v, _, e2, e3, e4, e5, rv⟩ := code_at xr e1
          rw [hcl] at e2
          cases e2
          obtain ⟨a1, vs, g1, g2, g3, g4⟩ := wd.own he0
          rw [h1] at g1
          cases g1
          obtain ⟨wd2, ext2⟩ := g4 (l0 ++ [dd]) (vs ++ [v]) (g3.app (reps.cons rv reps.nil))
          exact ⟨.ref a0, h1, list_ty h2, .ref a, hs, rfl, hcl, da, fs, v, e3, e4, e5, a0, vs, v, rfl, rfl, g2, by rw [← g3.length, ← lim_eq]; exact hz, h S _ fp σ ext2 wd2 bo⟩
        · cases hm
      · cases hm
    · rename_i y e' hm
      split at hm
      · rename_i l0 he0
        rcases eCode_or x e with ⟨dd, e1, e0⟩ | e0 <;> rw [e0] at hm <;> simp only [Rs.then, Vl.d, he0] at hm
        · split at hm <;> cases hm
        · cases hm
      · cases hm
    · exact h.elim
  · exact ⟨fun pins s σ H D I h => by
      obtain ⟨x, S, e, fp, xk, wd, bo, hs, xr, h⟩ := h
      obtain ⟨C, fI, qual, g1, g2, g3⟩ := xk.ex
      obtain ⟨C', da, fs, g4, g5, _⟩ := xr
      rw [g1] at g4
      cases g4
      exact absurd ⟨C, g5, g3, g2.noN⟩ hc⟩
theorem ds_try {i : Nat} {cn : String} {n : Str} {np pos pos' : Pos} {body : List Stmt} {b₀ : Stmt} {c : C} {cs ns : List String} {s : Ex → C} (hs : X.stack = X.env :: X.outer) (hf : X.env.frame = some X.env.locals) (hN : X.N.Nodup) (tk : Takes X W)
    (hb : ∀ (W' : WX) (pn : List (Addr × Obj)) (xe : Value → Shared → Prop), Takes (X.tr pn xe) W' → PassesOwn (model X.prog X.w) X.A X.env xe → DSs (X.tr pn xe) B W' body c)
    (hsu : DX X B i b₀ s) (xc : Xk X.prog X.K X.mg cn) (xs : ∀ q ∈ cs, Xk X.prog X.K X.mg q ∧ Em X.K X.mg q cn true) (xn : ∀ q ∈ ns, Em X.K X.mg q cn false)
    (hg : Gl X (Str.ofString cn) := by rfl) (hdb : ((Str.ofString cn) == ("__debug__" : Str)) = false := by decide) (hi : X.N[i]? = some n := by rfl) (hln : X.env.kindOf n = some .local := by rfl) (hB : ∀ p ∈ B, p.1 ≠ i := by simp) :
    DS X B W (.Try body [.ExceptHandler (some (.Name (Str.ofString cn) np)) (some n) [b₀] pos'] [] [] pos) (sTry c cs ns i s) := by
  obtain ⟨C, fI, qual, g1, g2, g3⟩ := xc.ex
  refine ⟨PSm (ps_try_as (c := .ref C) (ts := fun a cls d => TXx X B i a cls d s) (tb := fun W' => TSx X.K X.mg B W' c) hs hf hN hi hln ⟨hg, hdb, .inl g1⟩ tk (fun W' pn xe t p => (hb W' pn xe t p).p) (fun a oe cls d pn hz hf => pss_one (hsu a oe cls d pn hz hf))) fun D σ H ⟨S, e, fp, wd, bo, h⟩ => ⟨S, e, fp, wd, bo, ?_⟩⟩
  unfold sTry at h
  cases hc : c e with
  | nxt _ => simp only [hc] at h; exact h
  | ret _ _ => simp only [hc] at h; exact h
  | brk _ => simp only [hc] at h; exact h
  | cnt _ => simp only [hc] at h; exact h
  | bad => simp only [hc] at h; exact h
  | ex x e1 =>
    simp only [hc] at h
    intro S1 H1 fp1 σ1 cc dd ext wd1 bo1 xr
    obtain ⟨C1, d1, fs, g4, g5, g6⟩ := xr
    subst g5
    by_cases hm : cs.contains x.cls = true
    · rw [if_pos hm] at h
      have hm' : x.cls ∈ cs := by simpa using hm
      obtain ⟨xk, em⟩ := xs _ hm'
      refine ⟨true, em C1 C g4 g1, fun _ a na => ?_, fun z => by cases z⟩
      obtain ⟨fp2, wd2, sub2, _⟩ := wd1.clear (i := i) (w := some (.ref a))
      have ext2 : Ext S H fp S1 H1 fp2 := ext.sub sub2
      by_cases hle : i < e1.length
      rotate_left
      · rw [if_neg hle] at h; exact h.elim
      rw [if_pos hle] at h
      have hlt : i < σ1.length := by rw [← wd1.env.len]; exact hle
      refine ⟨x, S1, e1.set i none, fp2, xk, wd2, bo1.set hB, by rw [List.getElem?_set_self hlt], ⟨C1, d1, fs, g4, rfl, g6⟩, ?_⟩
      have back : ∀ {P : L2.St → Hp → Prop} {e2 : En}, goOn X.K B S H fp P (e2.set i none) → goOn X.K B S1 H1 fp2 (fun σ' H' => P (σ'.set i none) H') e2 := fun {P e2} g S' H' fp' σ' x1 w1 b1 => by
        obtain ⟨fp3, wd3, sub3, _⟩ := w1.clear (i := i) (w := none)
        exact g S' H' fp3 _ ((ext2.trans x1).sub sub3) wd3 (b1.set hB)
      cases hq : s x (e1.set i none) with
      | nxt e2 => simp only [hq] at h; exact back h
      | brk e2 => simp only [hq] at h; exact back h
      | cnt e2 => simp only [hq] at h; exact back h
      | ret y e2 =>
        simp only [hq] at h
        intro S' H' fp' fx σ' v x1 w1 sp b1 r
        obtain ⟨fp3, wd3, sub3, fr, pm⟩ := w1.clear (i := i) (w := none)
        have pm2 : (fx ++ fp').Perm ((fx ++ fp3) ++ fr) := by
          rw [List.append_assoc]
          exact pm.append_left fx
        exact h S' H' fp3 fx _ v ((ext2.trans x1).sub fun a q => pm2.mem_iff.mpr (List.mem_append_left _ q)) wd3 (sp.perm pm2).app1 (b1.set hB) r
      | ex _ _ => simp only [hq] at h; exact h.elim
      | bad => simp only [hq] at h; exact h.elim
    · rw [if_neg hm] at h
      by_cases hn : ns.contains x.cls = true
      · rw [if_pos hn] at h
        exact ⟨false, xn _ (by simpa using hn) C1 C g4 g1, (fun z => absurd z Bool.false_ne_true), fun _ => h S1 H1 fp1 σ1 _ dd ext wd1 bo1 ⟨C1, d1, fs, g4, rfl, g6⟩⟩
      · rw [if_neg hn] at h
        exact h.elim
end
end Fx
end

section
set_option Elab.async false
set_option linter.all false
set_option maxRecDepth 100000
set_option maxHeartbeats 4000000
/-! Wo: comprehensions that make lists of one's own. -/
namespace Fx
open PySem PySem.Spec PyProof.Rows L2

theorem rows.app {K : PySem.W.Frag} {S : SP'} {H : Hp} : ∀ {ls ms : List (List D)} {as bs : List Addr} {vs ws : List V}, rows K S H ls as vs → rows K S H ms bs ws → rows K S H (ls ++ ms) (as ++ bs) (vs ++ ws)
  | [], _, _, _, _, _, h, h' => by unfold rows at h; rw [h.1, h.2]; exact h'
  | l :: ls, _, _, _, _, _, h, h' => by
    unfold rows at h
    obtain ⟨b, r, ws, rs, h1, h2, h3, h4, h5⟩ := h
    subst h1 h2
    show rows K S H (l :: (ls ++ _)) (b :: (r ++ _)) (.ref b :: (rs ++ _))
    unfold rows
    exact ⟨b, _, ws, _, rfl, rfl, h3, h4, rows.app h5 h'⟩
structure CO (K : PySem.W.Frag) (S1 : SP') (H1 : Hp) (fp1 : List Addr) (D' : Addr) (σw : L2.St) (e : En) (acc : List (List D)) (H : Hp) (S : SP') (as fp : List Addr) : Prop where
  ext : Ext S1 H1 fp1 S H ((D' :: as) ++ fp)
  wd : Wd K S H e fp σw
  sep : Sep S H ((D' :: as) ++ fp)
  at_ : ∃ vs, H D' = some (.lst vs) ∧ rows K S H acc as vs
section
variable {K : PySem.W.Frag} {S1 S S2 : SP'} {H1 H H2 : Hp} {fp1 fp fp2 as : List Addr} {D' : Addr} {σw σ2 : L2.St} {e e2 : En} {acc : List (List D)}
theorem CO.start {e1 : En} {σ : L2.St} {vs : List Nat} (wd1 : Wd K S1 H1 e1 fp1 σ) (hD : H1 D' = none) : ∃ fp, CO K S1 H1 fp1 D' (wipe σ vs) (Fx.hide e1 vs) [] (upd H1 D' (.lst [])) S1 [] fp := by
  obtain ⟨fp, ci⟩ := CI.start (vs := vs) wd1 hD
  exact ⟨fp, ci.ext, ci.wd, ci.sep, [], upd_same, rfl, rfl⟩
theorem CO.step (c : CO K S1 H1 fp1 D' σw e acc H S as fp) (x : Ext S H fp S2 H2 fp2) (wd2 : Wd K S2 H2 e2 fp2 σ2) : CO K S1 H1 fp1 D' σ2 e2 acc H2 S2 as fp2 := by
  obtain ⟨s1, s2⟩ := c.sep.wait x wd2.sep
  obtain ⟨vs, h1, h2⟩ := c.at_
  exact ⟨c.ext.wait x, wd2, s1, vs, by rw [s2 D' (by simp)]; exact h1, rows.stb (x.stb c.wd.sep) _ _ _ (fun a q => s2 a (List.mem_cons_of_mem _ q)) h2⟩
theorem CO.same (c : CO K S1 H1 fp1 D' σw e acc H S as fp) (wd2 : Wd K S H e2 fp2 σ2) (sub : ∀ a ∈ fp2, a ∈ fp) : CO K S1 H1 fp1 D' σ2 e2 acc H S as fp2 :=
  c.step ((Ext.refl S H fp).sub sub) wd2
theorem CO.stb (c : CO K S1 H1 fp1 D' σw e acc H S as fp) (sp : Sep S1 H1 fp1) : Stb S1 H1 S H := c.ext.stb sp
/-- a list is put behind -/
theorem CO.push {l : List D} {b : Addr} {vs ws : List V} (c : CO K S1 H1 fp1 D' σw e acc H S as fp) (hD : H1 D' = none) (x : Ext S H fp S2 H2 ([b] ++ fp2)) (wd2 : Wd K S2 H2 e2 fp2 σ2) (sep2 : Sep S2 H2 ([b] ++ fp2)) (hv : H2 D' = some (.lst vs)) (hb : H2 b = some (.lst ws)) (r : reps K S2 H2 l ws) :
    CO K S1 H1 fp1 D' σ2 e2 (acc ++ [l]) (upd H2 D' (.lst (vs ++ [.ref b]))) S2 (as ++ [b]) fp2 := by
  obtain ⟨s1, s2⟩ := c.sep.wait x sep2
  have ext3 := c.ext.wait x
  obtain ⟨vs', h1, h2⟩ := c.at_
  have e1 : H2 D' = H D' := s2 D' (by simp)
  rw [hv, h1] at e1
  simp only [Option.some.injEq, HO.lst.injEq] at e1
  subst e1
  have pm : ((D' :: as) ++ ([b] ++ fp2)).Perm ([D'] ++ ((as ++ [b]) ++ fp2)) := by simp
  have pm2 : ((D' :: as) ++ ([b] ++ fp2)).Perm ((D' :: (as ++ [b])) ++ fp2) := by simp
  have sD : Sep S2 H2 ([D'] ++ ((as ++ [b]) ++ fp2)) := s1.perm pm
  have pm3 : ([D'] ++ ((as ++ [b]) ++ fp2)).Perm (([D'] ++ fp2) ++ (as ++ [b])) := by
    exact (List.append_assoc [D'] fp2 (as ++ [b])) ▸ (List.perm_append_comm (l₁ := as ++ [b]) (l₂ := fp2)).append_left [D']
  have sF : Sep S2 H2 ([D'] ++ fp2) := (sD.perm pm3).app1
  obtain ⟨wd3, st, _⟩ := wd2.write (ws := vs ++ [.ref b]) sF hv
  have ne : ∀ a ∈ as ++ [b], a ≠ D' := fun a q z => by subst z; exact sD.apart (by simp) (List.mem_append_left _ q)
  have rw1 : rows K S2 H2 acc as vs := rows.stb (x.stb c.wd.sep) _ _ _ (fun a q => s2 a (List.mem_cons_of_mem _ q)) h2
  have rw2 : rows K S2 H2 [l] [b] [.ref b] := by unfold rows; exact ⟨b, [], ws, [], rfl, rfl, hb, r, by unfold rows; exact ⟨rfl, rfl⟩⟩
  refine ⟨?_, wd3, ⟨?_, ?_, ?_⟩, _, upd_same, rows.stb st _ _ _ (fun a q => upd_ne (ne a q)) (rw1.app rw2)⟩
  · have z := ext3.perm pm2
    exact ⟨fun a o h q => by rw [upd_ne (ne_of_none h hD)]; exact z.keep a o h q, z.fresh, z.mono, z.sfr⟩
  · exact (s1.perm pm2).nd
  · exact (s1.perm pm2).ns
  · intro a q
    by_cases z : a = D'
    · subst z; exact ⟨_, upd_same, trivial⟩
    · rw [upd_ne z]; exact (s1.perm pm2).ow a q
theorem comp_itemO {mg : Str → Option Value} {e1 : En} {t : M Bool} {x : M Vl} {Nx : Hp → Prop} {cont : List (List D) → En → Rs (List (List D))} {accF : List (List D)} {eF : En}
    (c : CO K S1 H1 fp1 D' σ2 e1 acc H S as fp) (hD : H1 D' = none) (hz : acc.length < sizeLine)
    (hres : (match t e1 with
      | .ok true e2 => (match x e2 with
        | .ok (.o y) e3 => cont (acc ++ [y]) e3
        | _ => .bad)
      | .ok false e2 => cont acc e2
      | _ => .bad) = .ok accF eF)
    (hN : ∀ S' H' as' fp' e' acc', (acc'.length ≤ acc.length + 1) → CO K S1 H1 fp1 D' σ2 e' acc' H' S' as' fp' → cont acc' e' = .ok accF eF → Nx H') :
    TR K mg W0 RB t σ2 H (fun b H3 => if b = true then TR K mg W0 (repV K) x σ2 H3 (fun y H4 => ∃ ac, H4 D' = some (.lst ac) ∧ ac.length < sizeLine ∧ Nx (upd H4 D' (.lst (ac ++ [y])))) else Nx H3) := by
  cases ht : t e1 with
  | bad => simp [ht] at hres
  | ex _ _ => simp [ht] at hres
  | ok b e2 =>
    refine TR.run0 c.wd ht fun S3 H3 fp3 fx v ext3 wd3 sep3 rb => ?_
    obtain ⟨rfl, rfl⟩ := rb
    have c3 := c.step ext3 wd3
    cases v with
    | false =>
      simp only [ht] at hres
      rw [if_neg Bool.false_ne_true]
      exact hN S3 H3 as fp3 e2 acc (Nat.le_succ _) c3 hres
    | true =>
      simp only [ht] at hres
      rw [if_pos rfl]
      cases hx : x e2 with
      | bad => simp [hx] at hres
      | ex _ _ => simp [hx] at hres
      | ok y e3 =>
        cases y with
        | v _ => simp [hx] at hres
        | oo _ => simp [hx] at hres
        | dc _ => simp [hx] at hres
        | rg _ _ => simp [hx] at hres
        | o l =>
          simp only [hx] at hres
          refine TR.run0 wd3 hx fun S4 H4 fp4 fy w ext4 wd4 sep4 ry => ?_
          obtain ⟨b, ws, rfl, rfl, hb, rr⟩ := ry
          obtain ⟨s1, s2⟩ := c3.sep.wait ext4 sep4
          obtain ⟨vs, h1, h2⟩ := c3.at_
          have h1' : H4 D' = some (.lst vs) := by rw [s2 D' (by simp)]; exact h1
          refine ⟨vs, h1', by rw [← h2.length.1]; exact hz, ?_⟩
          exact hN _ _ _ fp4 e3 (acc ++ [l]) (by simp) (c3.push hD ext4 wd4 sep4 h1' hb rr) hres
end
section
variable {Y Y1 : Bool} {X : Cx} {W : WX} {a b c : Expr} {pos : Pos} {m n : M Vl}
theorem comp_trO {vs ts : List Nat} {it : M (List D)} {g : D → En → Option En} {t : M Bool} {x : M Vl} (hts : ∀ i ∈ ts, i ∈ vs) {σ : L2.St} {H : Hp} {Q : VK} (h : TR X.K X.mg W (repV X.K) (eCompO vs it g t x) σ H Q) :
    tLc (fun σ H R => TR X.K X.mg W (fun S H ds fx (J : It) => fx = [] ∧ Wk X.K S H J ds Y) it σ H R) (TGd X.K ts g Y) (TR X.K X.mg W0 RB t) (TR X.K X.mg W0 (repV X.K) x) vs σ H Q := by
  refine TR.bind (R' := repV X.K) (k := fun l e1 => if l.length ≤ lim then (match compGoO vs g t x l [] (Fx.hide e1 vs) with | .ok acc e2 => .ok (.oo acc) (Fx.unhide e1 e2 vs) | _ => .bad) else .bad) (Q := Q) h fun S e fp S1 H1 e1 fp1 fx l J wd ext wd1 sep1 rj p => ?_
  obtain ⟨rfl, wk⟩ := rj
  split at p
  · rename_i hl
    cases hr : compGoO vs g t x l [] (Fx.hide e1 vs) with
    | bad => simp [hr, Rs.post] at p
    | ex _ _ => simp [hr, Rs.post] at p
    | ok accF eF =>
      simp only [hr, Rs.post] at p
      intro D' hD
      refine ⟨fun i m H' => m = l.length - i ∧ i ≤ l.length ∧ ∃ S' as fp' e' acc, acc.length ≤ i ∧ CO X.K S1 H1 fp1 D' (wipe σ vs) e' acc H' S' as fp' ∧ compGoO vs g t x (l.drop i) acc e' = .ok accF eF, ⟨l.length, by simp, Nat.zero_le _, ?_⟩, ?_⟩
      · obtain ⟨fp', ci⟩ := CO.start (vs := vs) wd1 hD
        exact ⟨S1, [], fp', _, [], Nat.le_refl _, ci, by simpa using hr⟩
      · rintro i m H' ⟨rfl, hi, S', as, fp', e', acc, hacc, ci, hgo⟩
        obtain ⟨wk1, wk2⟩ := wk S' H' (ci.stb wd1.sep)
        by_cases hlt : i < l.length
        · have hd : l.drop i = l[i] :: l.drop (i + 1) := List.drop_eq_getElem_cons hlt
          obtain ⟨go, yl⟩ := wk1 i l[i] (by simp [hlt])
          refine .inr ⟨go, fun H2 => ∃ S' as fp' e' acc, acc.length ≤ i + 1 ∧ CO X.K S1 H1 fp1 D' (wipe σ vs) e' acc H2 S' as fp' ∧ compGoO vs g t x (l.drop (i + 1)) acc e' = .ok accF eF, fun H2 h2 => ⟨l.length - (i + 1), by omega, rfl, hlt, h2⟩, fun y H2 hy => ?_⟩
          obtain ⟨gr, ry⟩ := yl y H2 hy
          have ci2 : CO X.K S1 H1 fp1 D' (wipe σ vs) e' acc H2 S' as fp' := ci.step ((Ext.refl S' H' fp').grow (fz := []) gr (fun _ q => absurd q (by simp))) (ci.wd.grow gr)
          rw [hd] at hgo
          unfold compGoO at hgo
          cases hgd : g l[i] e' with
          | none => simp [hgd] at hgo
          | some e2 =>
            simp only [hgd] at hgo
            refine ⟨S', e', fp', l[i], e2, ci2.wd, ry, hgd, fun σ2 Sg Hg fp2 xg wd2 o2 => ?_⟩
            have ew : wipe σ2 vs = wipe σ vs := by
              have h1 := wipe_out (vs := vs) o2 hts
              rw [h1]
              exact wipe_wipe fun _ h => h
            refine ⟨ew, ?_⟩
            have ci3 := ci2.step xg wd2
            refine comp_itemO (cont := fun acc e3 => compGoO vs g t x (l.drop (i + 1)) acc (Fx.hide e3 vs)) ci3 hD (lim_lt (Nat.lt_of_le_of_lt hacc hlt) hl) hgo fun S4 H4 as4 fp4 e4 acc4 hle ci4 hc4 => ?_
            obtain ⟨fp5, wd5, sub5⟩ := ci4.wd.hide (vs := vs)
            rw [ew] at wd5
            exact ⟨S4, as4, fp5, _, acc4, by omega, ci4.same wd5 sub5, hc4⟩
        · have ei : i = l.length := by omega
          subst ei
          refine .inl ⟨wk2, ?_⟩
          rw [List.drop_length] at hgo
          unfold compGoO at hgo
          cases hgo
          obtain ⟨fp6, wd6, sub6⟩ := Wd.unhide wd1 (ci.stb wd1.sep) (wipe_length σ vs) (vs := vs) ci.wd
          rw [back_wipe] at wd6
          have ci6 := ci.same wd6 sub6
          obtain ⟨ws, h1, h2⟩ := ci6.at_
          exact p S' H' fp6 (D' :: as) _ (ext.trans ci6.ext) wd6 ci6.sep ⟨D', ws, as, rfl, rfl, h1, h2⟩
  · exact p.elim
theorem de_compO {elt tg iter : Expr} {ifs : List Expr} {scope : Scope} {own : List (Str × Nat)} {ts : List Nat} {it : M (List D)} {g : D → En → Option En} {t : M Bool} {x : M Vl} (hc : X.calm = true) (hN : X.N.Nodup) (hi : DI X W tg iter it Y) (ok : BlkOk X.N X.env.scope scope own)
    (hg : ∀ (s : Shared) (H : Hp) (C : Addr) (cl : List (Str × Addr)) (fp : List Addr), DG (X.blk s H scope (compEnvC scope cl C X.env) fp) ts tg g Y) (ht : ∀ (s : Shared) (H : Hp) (C : Addr) (cl : List (Str × Addr)) (fp : List Addr), DTs (X.blk s H scope (compEnvC scope cl C X.env) fp) ifs t)
    (he : ∀ (s : Shared) (H : Hp) (C : Addr) (cl : List (Str × Addr)) (fp : List Addr), DE (X.blk s H scope (compEnvC scope cl C X.env) fp) W0 elt x) (hts : ∀ i ∈ ts, i ∈ own.map (·.2) := by decide) (hs : ∀ x, foldedSetIterable iter X.env x = pure x := by intro _; rfl) :
    DE X W (.ListComp elt [⟨tg, iter, ifs, 0⟩] scope pos) (eCompO (own.map (·.2)) it g t x) := by
  exact ⟨PEm (pe_lc (g := TGd X.K ts g Y) (tt := TR X.K X.mg W0 RB t) (te := TR X.K X.mg W0 (repV X.K) x) hc hN hi.p ok (fun s H C cl fp => (hg s H C cl fp).p) (fun s H C cl fp => (ht s H C cl fp).p) (fun s H C cl fp => (he s H C cl fp).p) hs) fun σ H Q h => comp_trO hts h⟩
theorem ds_setCO {B : List (Nat × Addr)} {i : Nat} {y : Str} {py spos : Pos} {elt tg iter : Expr} {ifs : List Expr} {scope : Scope} {own : List (Str × Nat)} {ts : List Nat} {it : M (List D)} {g : D → En → Option En} {t : M Bool} {x : M Vl} (hc : X.calm = true) (hN : X.N.Nodup) (hi : DI X W tg iter it Y) (ok : BlkOk X.N X.env.scope scope own)
    (hg : ∀ (s : Shared) (H : Hp) (C : Addr) (cl : List (Str × Addr)) (fp : List Addr), DG (X.blk s H scope (compEnvC scope cl C X.env) fp) ts tg g Y) (ht : ∀ (s : Shared) (H : Hp) (C : Addr) (cl : List (Str × Addr)) (fp : List Addr), DTs (X.blk s H scope (compEnvC scope cl C X.env) fp) ifs t)
    (he : ∀ (s : Shared) (H : Hp) (C : Addr) (cl : List (Str × Addr)) (fp : List Addr), DE (X.blk s H scope (compEnvC scope cl C X.env) fp) W0 elt x) (hts : ∀ i ∈ ts, i ∈ own.map (·.2) := by decide) (hy : X.N[i]? = some y := by rfl) (hyl : X.env.scope.names.lookup y = some .local := by rfl)
    (hsw : swapsWith (.ListComp elt [⟨tg, iter, ifs, 0⟩] scope pos) (some (.Name y py)) spos.line X.env = pure true := by rfl) (hB : ∀ p ∈ B, p.1 ≠ i := by simp) (hs : ∀ x, foldedSetIterable iter X.env x = pure x := by intro _; rfl) :
    DS X B W (.Assign [.Name y py] (.ListComp elt [⟨tg, iter, ifs, 0⟩] scope pos) spos) (sSet i (eCompO (own.map (·.2)) it g t x)) :=
  ⟨PSm (ps_setLc (g := TGd X.K ts g Y) (tt := TR X.K X.mg W0 RB t) (te := TR X.K X.mg W0 (repV X.K) x) hc hN hy hyl hsw hi.p ok (fun s H C cl fp => (hg s H C cl fp).p) (fun s H C cl fp => (ht s H C cl fp).p) (fun s H C cl fp => (he s H C cl fp).p) hs) fun D σ H h => comp_trO hts (set_tr hB h)⟩
end
end Fx
end

section
set_option Elab.async false
set_option linter.all false
set_option maxRecDepth 100000
set_option maxHeartbeats 4000000
/-! Ws: sorted of whole numbers, out of lists and tuples. -/
namespace Fx
open PySem PySem.Spec PyProof.Rows L2 PySem.W PySem.Calls
section
variable {prog : Program} {w : World} {A : Around} {E : Value → Shared → Prop} {s : Shared}
theorem collect_tup {l : Addr} {vs : List Value} {Q : List Value → Shared → Prop} (hl : IsTup s.heap l vs.toArray)
    (h : Q vs { s with heap := (s.heap.push (seqObj "list" #[] 0)).update s.heap.objs.size (Obj.mapSeq (· ++ vs.toArray)) }) (hsz : vs.length ≤ sizeLine) :
    wpAny (model prog w) A (collect (.ref l)) Q E s := by
  obtain ⟨o, ho, hc, n, hd⟩ := id hl
  unfold collect
  refine wpAny_bind (wpAny_runValue (codeAny_builtin entry_proto_collect' ?_))
  show wpAny _ _ (do again (.builtin "list.__iadd__" ⟨[← newList [], .ref l], []⟩)) _ _ s
  refine wpAny_bind (wpAny_newList (wpAny_pure ⟨Code.quiet_builtin _ (by decide +kernel), codeAny_builtin entry_list_iadd' ?_⟩))
  show wpAny _ _ (Builtin.List.listExtendWith (.ref s.heap.objs.size) (.ref l) (.ref s.heap.objs.size)) _ _ { s with heap := s.heap.push (seqObj "list" #[] 0) }
  unfold Builtin.List.listExtendWith
  have ho' : (s.heap.push (seqObj "list" #[] 0)).get? l = some o := Heap.get?_push_of_some _ ho
  refine wpAny_bind (wpAny_typeOf (T := "tuple") ⟨o, ho', hc⟩ ?_)
  have ht : (Value.type "tuple" == Value.type "tuple") = true := by rfl
  rw [if_pos (by rw [ht]; simp)]
  refine wpAny_bind (listItems_at ho' hd ?_)
  refine wpAny_bind (listItems_at (xs := #[]) (n := 0) (Heap.get?_push_size _ rfl) rfl ?_)
  rw [if_neg (by simp)]
  refine wpAny_bind (listUpdate_at (xs := #[]) (n := 0) (Heap.get?_push_size _ rfl) rfl ?_ (Nat.zero_le _) (by show (#[] ++ vs.toArray).size ≤ sizeLine + 1; simp only [Array.size_append, List.size_toArray, List.length_nil]; omega))
  refine wpAny_pure ?_
  show wpAny (model prog w) A (do
      let o ← load s.heap.objs.size
      match o.data with
      | .seq xs _ => pure xs.toList
      | _ => unsupported "internal:collect") Q E { s with heap := (s.heap.push (seqObj "list" #[] 0)).update s.heap.objs.size (Obj.mapSeq (· ++ vs.toArray)) }
  refine wpAny_bind (wpAny_load (get?_update_seq (Heap.get?_push_size _ rfl) _) ?_)
  show wpAny _ _ (pure ((#[] : Array Value) ++ vs.toArray).toList) Q E _
  rw [show ((#[] : Array Value) ++ vs.toArray).toList = vs by simp]
  exact wpAny_pure h
theorem sorted_of_tup {l : Addr} {vs : List Value} {Q : Value → Shared → Prop} (hl : IsTup s.heap l vs.toArray) (hL : vs.length ≤ sizeLine)
    (body : ∀ E' : Value → Shared → Prop, wpAny (model prog w) A.in1.in1 (Builtin.«list.sort» ⟨[.ref (s.heap.objs.size + 1)], []⟩) (fun f s' => f = .done (.ret .none) ∧ Q (.ref (s.heap.objs.size + 1)) s') E' { s with heap := copyHeap s.heap vs }) :
    wpAny (model prog w) A (call (.builtin "sorted") [.ref l]) Q E s := by
  refine call_function_entry_kw kind_sorted plain_sorted entry_sorted (args_sorted1 _) ?_
  unfold Builtin.«sorted»
  refine wpAny_bind (m := checkCount "sorted" 1 1 _) (wpAny_pure ?_)
  refine wpAny_bind (collect_tup hl ?_ hL)
  refine wpAny_bind (wpAny_newList ?_ hL)
  have hsz : ((s.heap.push (seqObj "list" #[] 0)).update s.heap.objs.size (Obj.mapSeq (· ++ vs.toArray))).objs.size = s.heap.objs.size + 1 := by
    rw [Heap.size_update, size_push']
  show wpAny _ _ _ _ _ { s with heap := copyHeap s.heap vs }
  rw [hsz]
  refine wpAny_bind (wpAny_holding (wpAny_call_entry_kw slot_list_sort ⟨_, copyHeap_at s.heap vs, rfl⟩ entry_list_sort ?body (args_list_sort _)))
  case body =>
    show wpAny (model prog w) A.in1.in1 (Builtin.«list.sort» ⟨[.ref (s.heap.objs.size + 1)], []⟩) _ _ _
    refine wpAny_mono (body _) (fun f s' hf => ?_) fun _ _ e => e
    obtain ⟨rfl, hq⟩ := hf
    exact ⟨_, rfl, wpAny_pure ⟨_, rfl, hq⟩⟩
theorem sorted_data_tup {β : Type} {vs : List Value} {bs : List β} {enc : β → PyData} {R : Value → β → Prop} {l : Addr} {Q : Value → Shared → Prop} (hl : IsTup s.heap l vs.toArray) (e : EachIs R vs bs) (er : EachIs (fun v b => ∃ as, Reads s.heap v (enc b) as) vs bs) (hal : AllAlike (bs.map enc)) (hk : Sortable (bs.map enc)) (hL : bs.length ≤ sizeLine)
    (hu : ∀ b, b ∈ bs → A.units + 2 + (enc b).depth < cLine) (h : ∀ out, out.length = bs.length → EachIs R out (bs.mergeSort (dataLe false enc)) → Q (.ref (s.heap.objs.size + 1)) { s with heap := sortedAll s.heap vs (List.toArray out) }) :
    wpAny (model prog w) A (call (.builtin "sorted") [.ref l]) Q E s := by
  have er' : EachIs (fun v b => ∃ as, Reads (sortingHeap (copyHeap s.heap vs) (s.heap.objs.size + 1) vs) v (enc b) as) vs bs := er.mono fun _ _ ⟨as, r⟩ => ⟨as, PyProof.Rows.Reads.keeps (fun _ _ => sorting_copy_old) r⟩
  have hL' : vs.length ≤ sizeLine := by rw [e.length]; exact hL
  refine sorted_of_tup hl hL' fun _ => list_sort_vals (κ := dataKind (sortingHeap (copyHeap s.heap vs) (s.heap.objs.size + 1) vs) (bs.map enc)) (s := { s with heap := copyHeap s.heap vs }) (copyHeap_at s.heap vs) (SortsAt.data (s := { s with heap := sortingHeap (copyHeap s.heap vs) (s.heap.objs.size + 1) vs }) (each_map (R := fun v d => ∃ as, Reads (sortingHeap (copyHeap s.heap vs) (s.heap.objs.size + 1) vs) v d as) enc er') hal hk (bound_map hu)) hL' ⟨rfl, ?_⟩
  exact h _ (by rw [sortVals_length false rfl]; exact e.length) (sortVals_data false e er' hal)
end
/-! ### in the layer's frame: whole numbers -/
def rSortI (K : Frag) : List V → Hp → VK → Prop := fun vs H Q => ∃ (a : Addr) (ns : List Int), vs = [V.ref a] ∧ (SqL K H a (ns.map V.int) ∨ SqT K H a (ns.map V.int)) ∧
  ∀ p, H p = none → Q (.ref p) (upd H p (.lst ((ns.mergeSort fun a b => decide (a ≤ b)).map V.int)))
theorem each_ints {h : Heap} : ∀ {ns : List Int} {us : List Value}, Vals (ns.map V.int) us → EachIs (fun v i => ∃ t, v = .int i t) us ns ∧ EachIs (fun v i => ∃ as, Reads h v (PyData.int i) as) us ns
  | [], _, r => by cases r; exact ⟨.nil, .nil⟩
  | n :: ns, _, r => by
    cases r with
    | cons r1 r2 =>
      obtain ⟨t, rfl⟩ := r1
      exact ⟨.cons ⟨t, rfl⟩ (each_ints (h := h) r2).1, .cons ⟨_, .int _ _⟩ (each_ints (h := h) r2).2⟩
theorem each_vals : ∀ {ns : List Int} {us : List Value}, EachIs (fun v i => ∃ t, v = .int i t) us ns → Vals (ns.map V.int) us
  | _, _, .nil => .nil
  | _, _, .cons ⟨t, h⟩ r => .cons ⟨t, h⟩ (each_vals r)
theorem cr_sortI {X : Cx} (hu : X.A.units + 66 < cLine) : CallR X (.builtin "sorted") (rSortI X.K) := by
  intro pins s σ H vs us Q I r h
  obtain ⟨a, ns, rfl, hs, q⟩ := h
  have key : ∀ (its : List Value), Vals (ns.map V.int) its → (ns.map V.int).length ≤ sizeLine → ∀ out : List Value, out.length = ns.length → EachIs (fun v i => ∃ t, v = .int i t) out (ns.mergeSort (dataLe false PyData.int)) →
      EP X pins σ Q (.ref (s.heap.objs.size + 1)) { s with heap := sortedAll s.heap its (List.toArray out) } := fun its rv hz out hl e => by
    obtain ⟨ep, he'⟩ := PyProof.Rows.sortedAll_at s.heap its (List.toArray out)
    have hd : dataLe false PyData.int = fun a b => decide (a ≤ b) := dataLe_int fun i : Int => i
    rw [hd] at e
    have hv := each_vals e
    have hlen : ((ns.mergeSort fun a b => decide (a ≤ b)).map V.int).length ≤ sizeLine := by rw [List.length_map, List.length_mergeSort]; simpa using hz
    exact ⟨.ref _, upd H (s.heap.objs.size + 1) (.lst ((ns.mergeSort fun a b => decide (a ≤ b)).map V.int)), I.laid (t' := s.toks) (fun _ _ => PyProof.Rows.sortedAll_old) (Nat.le_succ _) ⟨hlen, out, ep, hv, he'⟩, rfl, q _ (I.hok.fresh (Nat.le_succ _))⟩
  have hal : AllAlike (ns.map PyData.int) := AllAlike.of fun _ _ => by simp [alike]
  have hk : Sortable (ns.map PyData.int) := Sortable.others fun _ => ⟨by simp, fun _ => by simp⟩
  have hb : ∀ b : Int, b ∈ ns → X.A.units + 2 + (PyData.int b).depth < cLine := fun b _ => by simp only [PyData.depth]; omega
  rcases hs with hs | hs
  · obtain ⟨its, rv, hl, hz⟩ := I.list hs
    rw [Vals.ref1 r]
    exact sorted_data hl.isList (each_ints (h := s.heap) rv).1 (each_ints rv).2 hal hk (by simpa using hz) hb (key its rv hz)
  · obtain ⟨its, rv, hl, hz⟩ := I.tuple hs
    rw [Vals.ref1 r]
    exact sorted_data_tup hl (each_ints (h := s.heap) rv).1 (each_ints rv).2 hal hk (by simpa using hz) hb (key its rv hz)
end Fx
end

section
set_option Elab.async false
set_option linter.all false
set_option maxRecDepth 100000
set_option maxHeartbeats 4000000
/-! Wn: chains, is, lists of ranges, sorted. -/
namespace Fx
open PySem PySem.Spec PyProof.Rows L2
section
variable {X : Cx} {W : WX} {a b c : Expr} {pos : Pos} {m n o : M Vl}
def rIsAny : R2 := fun x y H Q => (y = .non ∧ Q (.bl (decide (x = .non))) H) ∨ rIsB x y H Q
def rNotAny : R2 := fun x y H Q => (y = .non ∧ Q (.bl (!decide (x = .non))) H) ∨ rNotB x y H Q
theorem op_is : OpR X (compareOp .Is) rIsAny := fun pins s σ H x y v u Q I rx ry h => h.elim (fun h => op_isN pins s σ H x y v u Q I rx ry h) (fun h => op_isBl pins s σ H x y v u Q I rx ry h)
theorem op_not : OpR X (compareOp .IsNot) rNotAny := fun pins s σ H x y v u Q I rx ry h => h.elim (fun h => op_notN pins s σ H x y v u Q I rx ry h) (fun h => op_notBl pins s σ H x y v u Q I rx ry h)
theorem isNon_rep {K : PySem.W.Frag} {S : SP'} {H : Hp} {x : Vl} {d : D} {fx : List Addr} {v : V} (e : x.d = some d) (h : repV K S H x fx v) : decide (v = .non) = d.isNon := by
  cases x with
  | v d' =>
    cases e
    have h := h.2
    cases d <;> unfold rep at h
    · subst h; rfl
    · subst h; rfl
    · subst h; rfl
    · subst h; rfl
    · obtain ⟨a, vs, rfl, _⟩ := h; rfl
    · obtain ⟨a, vs, rfl, _⟩ := h; rfl
  | o l => cases e; obtain ⟨a, vs, rfl, _⟩ := h; rfl
  | oo l => cases e; obtain ⟨a, vs, as, rfl, _⟩ := h; rfl
  | dc _ => cases e
  | rg _ _ => cases e
theorem rep_v {K : PySem.W.Frag} {S : SP'} {H : Hp} {d : D} {fx : List Addr} {v : V} (h : repV K S H (.v d) fx v) : rep K S H d v := h.2
theorem ok_is {K : PySem.W.Frag} : Op2 K (repV K) (repV K) oIs rIsAny := by
  intro S H x y z fx fy u v Q e dom sep rx ry h
  unfold oIs at e
  split at e
  · have hy := rep_v ry
    unfold rep at hy
    unfold oIsN at e
    cases hx : x.d with
    | none => rw [hx] at e; cases e
    | some d =>
      rw [hx] at e
      cases e
      exact .inl ⟨hy, by rw [isNon_rep hx rx]; exact pure_end (rep_bl _) h⟩
  · rename_i p q
    cases e
    have hx := rep_v rx
    have hy := rep_v ry
    unfold rep at hx hy
    exact .inr ⟨p, q, hx, hy, pure_end (rep_bl _) h⟩
  · cases e
theorem ok_not {K : PySem.W.Frag} : Op2 K (repV K) (repV K) oIsNot rNotAny := by
  intro S H x y z fx fy u v Q e dom sep rx ry h
  unfold oIsNot at e
  split at e
  · have hy := rep_v ry
    unfold rep at hy
    unfold oNotN at e
    cases hx : x.d with
    | none => rw [hx] at e; cases e
    | some d =>
      rw [hx] at e
      cases e
      exact .inl ⟨hy, by rw [isNon_rep hx rx]; exact pure_end (rep_bl _) h⟩
  · rename_i p q
    cases e
    have hx := rep_v rx
    have hy := rep_v ry
    unfold rep at hx hy
    exact .inr ⟨p, q, hx, hy, pure_end (rep_bl _) h⟩
  · cases e
theorem chain_tr {f g : Vl → Vl → Option Vl} {r r' : R2} (ok : Op2 X.K (repV X.K) (repV X.K) f r) (ok' : Op2 X.K (repV X.K) (repV X.K) g r') {σ : L2.St} {H : Hp} {Q : VK} (h : TR X.K X.mg W (repV X.K) (eChain f g m n o) σ H Q) :
    tChain r r' (TR X.K X.mg W (repV X.K) m) (TR X.K X.mg W (repV X.K) n) (TR X.K X.mg W (repV X.K) o) σ H Q := by
  refine TR.bind (R' := repV X.K) (k := fun x e => (n e).then fun y e => match y, f x y with
    | .v _, some (.v (.bl true)) => (o e).then fun z e => lift (g y z) e
    | .v _, some (.v (.bl false)) => .ok (.v (.bl false)) e
    | _, _ => .bad) (Q := Q) h fun S e fp S1 H1 e1 fp1 fx x u wd ext wd1 sep1 rx p => ?_
  refine TR.next (R' := repV X.K) (k := fun y e => match y, f x y with
    | .v _, some (.v (.bl true)) => (o e).then fun z e => lift (g y z) e
    | .v _, some (.v (.bl false)) => .ok (.v (.bl false)) e
    | _, _ => .bad) (Q := Q) wd1 ext sep1 p fun S2 H2 e2 fp2 fy y v ext2 st keep wd2 sep2 ry p2 => ?_
  have sxy : Sep S2 H2 (fx ++ fy) := by
    have h := sep2
    rw [← List.append_assoc] at h
    exact h.app1
  have ext2' : Ext S H fp S2 H2 fp2 := ext2.drop.drop
  split at p2
  · rename_i d hf
    refine ok S2 H2 x _ _ fx fy u v _ hf wd2.dom sxy (wt_rep _ _ _ _ _ _ _ _ st keep rx) ry fun H3 fz w k fr sz rz => ?_
    have hz := rep_v rz
    unfold rep at hz
    refine ⟨true, hz, ?_⟩
    rw [if_pos rfl]
    have ext3 : Ext S H fp S2 H3 fp2 := (ext2'.grow k fr).drop
    have wd3 := wd2.grow k
    have ry3 : repV X.K S2 H3 (.v d) fy v := ry.stb (Stb.grow k) fun a q => by rw [ry.1] at q; cases q
    refine ⟨S2, e2, fp2, wd3, ?_⟩
    cases ho : o e2 with
    | bad => simp only [ho, Rs.then] at p2; exact p2
    | ex x' e3 => simp only [ho, Rs.then] at p2; exact exW.more p2 ext3
    | ok z e3 =>
      simp only [ho, Rs.then] at p2
      cases hg : g (.v d) z with
      | none => rw [hg] at p2; exact p2.elim
      | some zz =>
        rw [hg] at p2
        intro S4 H4 fp4 fz4 w4 ext4 wd4 sep4 rz4
        have ry4 : repV X.K S4 H4 (.v d) [] v := by
          have := ry3.1
          subst this
          exact ry3.stb (ext4.stb wd3.sep) fun _ q => by cases q
        refine ok' S4 H4 (.v d) z zz [] fz4 v w4 Q hg wd4.dom (by simpa using sep4.app1) ry4 rz4 fun H5 f5 w5 k5 fr5 sz5 rz5 => ?_
        exact p2 S4 H5 fp4 f5 w5 (((ext3.trans ext4.drop).grow k5 fr5)) (wd4.grow k5) (wd4.sep.grow sz5 k5 fr5) rz5
  · rename_i d hf
    refine ok S2 H2 x _ _ fx fy u v _ hf wd2.dom sxy (wt_rep _ _ _ _ _ _ _ _ st keep rx) ry fun H3 fz w k fr sz rz => ?_
    have hz := rep_v rz
    unfold rep at hz
    refine ⟨false, hz, ?_⟩
    rw [if_neg Bool.false_ne_true]
    exact p2 S2 H3 fp2 [] _ (ext2'.grow k fr).drop (wd2.grow k) (wd2.grow k).sep ⟨rfl, rep_bl _⟩
  · exact p2.elim
theorem de_chain {op op' : CmpOp} {f g : Vl → Vl → Option Vl} {r r' : R2} (ho : OpR X (compareOp op) r) (ho' : OpR X (compareOp op') r') (ok : Op2 X.K (repV X.K) (repV X.K) f r) (ok' : Op2 X.K (repV X.K) (repV X.K) g r') (ha : DE X W a m) (hb : DE X W b n) (hc : DE X W c o)
    (hm : lastMarks [op, op'] [b, c] = false := by with_unfolding_all rfl) : DE X W (.Compare a [op, op'] [b, c] pos) (eChain f g m n o) := ⟨PEm (pe_chain ho ho' ha.p hb.p hc.p hm) fun σ H Q h => chain_tr ok ok' h⟩
theorem dt_chain {op op' : CmpOp} {f g : Vl → Vl → Option Vl} {r r' : R2} (ho : OpR X (compareOp op) r) (ho' : OpR X (compareOp op') r') (ok : Op2 X.K (repV X.K) (repV X.K) f r) (ok' : Op2 X.K (repV X.K) (repV X.K) g r') (ha : DE X W a m) (hb : DE X W b n) (hc : DE X W c o)
    (hm : lastMarks [op, op'] [b, c] = false := by with_unfolding_all rfl) : DT X W (.Compare a [op, op'] [b, c] pos) (Fx.tB (eChain f g m n o)) := ⟨PTm (pt_chain ho ho' ha.p hb.p hc.p hm) fun σ H Q q => ttest (fun σ H Q h => chain_tr ok ok' h) q⟩
theorem rg_reps {K : PySem.W.Frag} {S : SP'} {H : Hp} (lo : Int) : ∀ n : Nat, reps K S H (rng lo n) ((List.range n).map fun i => V.int (lo + (i : Nat)))
  | 0 => by unfold rng; simp [reps]
  | n + 1 => by
    have h := rg_reps (K := K) (S := S) (H := H) lo n
    unfold rng at h ⊢
    rw [List.range_succ, List.map_append, List.map_append]
    exact h.app (reps.cons (rep_int _) reps.nil)
theorem de_lr1 {p p2 pos2 : Pos} (hc : X.calm = true) (ha : DE X W a m) (hml : X.mg "list" = none) (hmr : X.mg "range" = none) (hgl : Gl X "list" := by rfl) (hgr : Gl X "range" := by rfl) (na : starEach [a] X.env = (false, eval a X.env) :: starEach [] X.env := by rfl)
    (nb : starEach [.Call (.Name "range" p) [a] [] pos] X.env = (false, eval (.Call (.Name "range" p) [a] [] pos) X.env) :: starEach [] X.env := by rfl) : DE X W (.Call (.Name "list" p2) [.Call (.Name "range" p) [a] [] pos] [] pos2) (eLr1 m) := by
  refine ⟨PEm (pe_listRg hc hgl hml (prg_1 hgr hmr ha.p na) nb) fun σ H Q h => ?_⟩
  refine TR.bind (R' := repV X.K) (k := kLr1) (Q := Q) h fun S e fp S1 H1 e1 fp1 fx x v wd ext wd1 sep1 rx p => ?_
  unfold kLr1 at p
  split at p
  · rename_i j
    split at p
    · rename_i hj
      have hx := rep_v rx
      unfold rep at hx
      unfold rgOk lim at hj
      simp only [Bool.and_eq_true, decide_eq_true_eq] at hj
      obtain ⟨⟨h12, h34⟩, h5⟩ := hj
      obtain ⟨h1, h2⟩ := small_of h12
      obtain ⟨h3, h4⟩ := small_of h34
      refine ⟨j, hx, ⟨by omega, by omega, by omega, by omega, by omega⟩, fun q hq => ?_⟩
      have hr := rg_reps (K := X.K) (S := S1) (H := H1) 0 j.toNat
      obtain ⟨k, fr, sp, rt⟩ := fresh_lst hr hq wd1.dom
      have e0 : rgV 0 j = (List.range j.toNat).map fun i => V.int (0 + (i : Nat)) := by unfold rgV; rw [show (j - 0).toNat = j.toNat by omega]
      rw [e0]
      exact p S1 _ fp1 [q] _ (ext.drop.grow k fr) (wd1.grow k) (wd1.sep.grow sp k fr) rt
    · exact p.elim
  · exact p.elim
theorem ok_sortI {K : PySem.W.Frag} : Op1 K (RP K) oSortI (fun x H Q => rSortI K [x] H Q) := by
  intro S H x z fx u Q e dom sep rx h
  unfold oSortI at e
  cases q : x.items with
  | none => rw [q] at e; cases e
  | some l =>
    rw [q, Option.bind_some] at e
    cases q2 : D.ints l with
    | none => rw [q2] at e; cases e
    | some ns =>
      rw [q2] at e
      cases e
      obtain ⟨a, vs, h1, h2, h3⟩ := rx.items q
      have key : ∀ {l : List D} {ns : List Int} {vs : List V}, D.ints l = some ns → reps K S H l vs → vs = ns.map V.int := by
        intro l
        induction l with
        | nil => intro ns vs e r; simp [D.ints] at e; subst e; unfold reps at r; exact r
        | cons d l ih =>
          intro ns vs e r
          unfold reps at r
          obtain ⟨v, r', rfl, hv, hr⟩ := r
          cases d <;> simp only [D.ints] at e <;> try cases e
          rename_i i
          cases hl : D.ints l with
          | none => rw [hl] at e; cases e
          | some ms =>
            rw [hl] at e
            cases e
            unfold rep at hv
            rw [hv, ih hl hr]
            rfl
      have ev := key q2 h3
      subst ev
      refine ⟨a, ns, by rw [h1], rd_sq h2, fun p hp => ?_⟩
      have hr : ∀ ms : List Int, reps K S H (ms.map .int) (ms.map V.int) := fun ms => by
        induction ms with
        | nil => exact reps.nil
        | cons i ms ih => exact reps.cons (rep_int i) ih
      obtain ⟨k, fr, sp, rt⟩ := fresh_lst (hr _) hp dom
      exact h _ [p] _ k fr sp rt
theorem de_sortI {p : Pos} (hu : X.A.units + 66 < cLine) (ha : DP X W a m) (hm : X.mg "sorted" = none) (hg : Gl X "sorted" := by rfl)
    (he : starEach (a :: []) X.env = (false, eval a X.env) :: starEach [] X.env := by rfl) (hpl : (backTo pos (starEach [] X.env)).any (·.1) = false := by rfl) : DE X W (.Call (.Name "sorted" p) [a] [] pos) (e1 oSortI m) := de_b1 (cr_sortI hu) ok_sortI ha hm (by decide +kernel) hg (by decide) (by decide) he hpl
end
end Fx
end

section
set_option Elab.async false
set_option linter.all false
set_option maxRecDepth 100000
set_option maxHeartbeats 4000000
/-! Wq: the law's own def. -/
namespace Fx
open PySem PySem.Spec PyProof.Rows L2
def spLaw (K : PySem.W.Frag) : Sp := fun vs H Q _ => ∃ (a : Addr) (ns : List Int), vs = [.ref a] ∧ SqL K H a (ns.map V.int) ∧ ns.length ≤ 63 ∧ Only H ∧ ∀ H', Q (.bl true) H'
section
variable {P : Program} {w : World} {K : PySem.W.Frag} {mg : Str → Option Value} {base : Heap}
theorem ints_reps {K : PySem.W.Frag} {S : SP'} {H : Hp} : ∀ ns : List Int, reps K S H (ns.map .int) (ns.map V.int)
  | [] => reps.nil
  | i :: ns => reps.cons (rep_int i) (ints_reps ns)
theorem law_def {x qual : Str} {st : Stmt} {f : Addr} {fd : FuncData} {N : List Str} {k : Nat} {c : C} (Fn : Fun K x qual st f fd) (sc : FnScope N ["script"] (defScope st))
    (hb : ∀ (cdv : Value) (A : Around) (outer : List Env) (s : Shared) (H : Hp) (E : XK), Room k (A.deeper (envOfC qual (defScope st) s.heap.objs.size f cdv)) → DSs (cxOf CX0 P w K mg base N qual (defScope st) f cdv A outer s H E).nox [] W0 (defBody st) c)
    (law : ∀ ns : List Int, ns.length ≤ 63 → runDef N.length [] c [.v (.lst (ns.map .int))] = .ok (.v (.bl true)) []) : FnOk P w K mg base CX0 (k + 1) f fd ["script"] (spLaw K) := by
  refine Fn.ok sc (fun vs H Q E h => ?_) (fun cdv A outer s H vs Q E hr h => ?_)
  · obtain ⟨a, ns, rfl, _⟩ := h
    rfl
  · obtain ⟨a, ns, rfl, hS, hlen, ho, q⟩ := h
    refine ⟨_, (hb cdv A outer s H E hr).p, ?_⟩
    have hl := law ns hlen
    unfold runDef at hl
    have hLs : Ls K (fun _ => False) H a (ns.map V.int) := Ls.of hS fun xs e => by
      rcases ho a with z | ⟨o, ys, z⟩ <;> rw [z] at e <;> cases e
    have env1 : envR K (fun _ => False) H [some (.v (.lst (ns.map .int)))] [] [some (.ref a)] := by
      unfold envR
      exact ⟨_, [], [], [], rfl, rfl, ⟨rfl, by unfold rep; exact ⟨a, _, rfl, hLs, ints_reps ns⟩⟩, by unfold envR; exact ⟨rfl, rfl⟩⟩
    refine ⟨fun _ => False, _, [], ⟨env1.pad (N.length - 1), Sep.nil, fun _ h => h.elim⟩, (fun p hp => nomatch hp), ?_⟩
    unfold sPost
    have e0 : ([Vl.v (.lst (ns.map .int))].map some ++ List.replicate (N.length - [Vl.v (.lst (ns.map .int))].length) none : En) = [some (.v (.lst (ns.map .int)))] ++ List.replicate (N.length - 1) none := rfl
    rw [e0] at hl
    cases hc : c ([some (.v (.lst (ns.map .int)))] ++ List.replicate (N.length - 1) none) with
    | nxt e => rw [hc] at hl; simp [outs] at hl
    | ret y e =>
      rw [hc] at hl; simp [outs] at hl
      subst hl
      intro S' H' fp' fx σ' v _ _ _ _ r
      have := rep_v r
      unfold rep at this
      rw [this]
      exact q H'
    | brk e => rw [hc] at hl; simp at hl
    | cnt e => rw [hc] at hl; simp at hl
    | ex x e => rw [hc] at hl; simp at hl
    | bad => rw [hc] at hl; simp at hl
end
end Fx
end

section
set_option Elab.async false
set_option linter.all false
set_option maxRecDepth 100000
set_option maxHeartbeats 4000000
/-! Wr: short words for what gen.py prints. -/
namespace Fx
open PySem PySem.Spec PyProof.Rows L2
theorem bb_tuple : bootBuiltins "tuple" = some (.type "tuple") := by decide +kernel
theorem bb_list : bootBuiltins "list" = some (.type "list") := by decide +kernel
theorem bb_int : bootBuiltins "int" = some (.type "int") := by decide +kernel
theorem bb_bool : bootBuiltins "bool" = some (.type "bool") := by decide +kernel
theorem bb_str : bootBuiltins "str" = some (.type "str") := by decide +kernel
theorem bb_abs : bootBuiltins "abs" = some (.builtin "abs") := by decide +kernel
theorem bb_any : bootBuiltins "any" = some (.builtin "any") := by decide +kernel
theorem bb_all : bootBuiltins "all" = some (.builtin "all") := by decide +kernel
theorem bb_sum : bootBuiltins "sum" = some (.builtin "sum") := by decide +kernel
theorem bb_max : bootBuiltins "max" = some (.builtin "max") := by decide +kernel
theorem bb_min : bootBuiltins "min" = some (.builtin "min") := by decide +kernel
theorem bb_isinstance : bootBuiltins "isinstance" = some (.builtin "isinstance") := by decide +kernel
/-- a def of the text -/
structure Df (K : PySem.W.Frag) (mg : Str → Option Value) (x : Str) (ps : List Str) (st : Stmt) : Prop where
  ex : ∃ f fd, Fun K x x st f fd ∧ Binds K fd ps [] ∧ mg x = some (.ref f)
theorem one_B {p : Nat} {B : List (Nat × Addr)} (h : B.map (·.1) = [p]) : ∃ a, B = [(p, a)] := by
  match B, h with
  | [(q, a)], h => simp at h; subst h; exact ⟨a, rfl⟩
section
variable {P : Program} {w : World} {K : PySem.W.Frag} {mg : Str → Option Value} {base : Heap} {N : List Str} {qual : Str} {scope : Scope} {f : Addr} {cdv : Value} {A : Around} {outer : List Env} {s : Shared} {H : Hp} {E : XK}
theorem tk_of : Takes (cxOf (L2.CX P w) P w K mg base N qual scope f cdv A outer s H E) (fun cls d _ H => E cls d H) := takes_of rfl rfl rfl rfl
theorem hp_of : PassesOwn (model P w) (cxOf (L2.CX P w) P w K mg base N qual scope f cdv A outer s H E).A (cxOf (L2.CX P w) P w K mg base N qual scope f cdv A outer s H E).env (cxOf (L2.CX P w) P w K mg base N qual scope f cdv A outer s H E).xe := passes_of rfl
end
section
variable {X : Cx} {W : WX} {a b c : Expr} {pos : Pos} {m n o : M Vl} {B : List (Nat × Addr)}
theorem dss_bad {st : List Stmt} : DSs X B W st (fun _ => .bad) := ⟨⟨fun pins s σ H D I h => by obtain ⟨S, e, fp, _, _, h⟩ := h; exact h.elim⟩⟩
theorem de_gi {x : Str} {i : Int} (hm : ∃ t, X.mg x = some (.int i t)) (hg : Gl X x := by rfl) (hd : (x == ("__debug__" : Str)) = false := by decide) : DE X W (.Name x pos) (eC (.int i)) := by
  obtain ⟨t, hm⟩ := hm
  exact de_glob hg hm (v := .int i) ⟨t, rfl⟩ (fun S H => rep_int i) hd
theorem ds_raiseK {cn : String} {a : Expr} {p pos pos2 : Pos} {k : Nat} (hc : X.calm = true) (T : Xk X.prog X.K X.mg cn) (gs : X.mg "super" = none) (hr : Room k X.A) (tk : Takes X W) (ha : DE X W a m) (hg : Gl X (Str.ofString cn) := by rfl) (hdb : ((Str.ofString cn) == ("__debug__" : Str)) = false := by decide)
    (he : starEach (a :: []) X.env = (false, eval a X.env) :: starEach [] X.env := by rfl) (hpl : (backTo pos (starEach [] X.env)).any (·.1) = false := by rfl) :
    DS X B W (.Raise (some (.Call (.Name (Str.ofString cn) p) [a] [] pos)) none pos2) (sRaise cn m) := by
  obtain ⟨C, fI, qual, h1, h2, h3⟩ := T.ex
  exact ds_raise hc h2 h1 gs hr tk ha hg hdb he hpl
end
end Fx
end

section
set_option Elab.async false
set_option linter.all false
set_option maxRecDepth 100000
set_option maxHeartbeats 4000000
/-! Wt: x.index(y), x.count(y) of lists and tuples. -/
namespace Fx
open PySem PySem.Spec PyProof.Rows L2
theorem pys_find (d : D) : ∀ l : List D, (D.pys l).findIdx? (fun y => PyData.eqv y d.py) = l.findIdx? fun z => D.eq z d
  | [] => rfl
  | a :: l => by
    simp only [D.pys, List.findIdx?_cons, py_eq, pys_find d l]
theorem pys_count (d : D) : ∀ l : List D, (D.pys l).countP (fun y => PyData.eqv y d.py) = l.countP fun z => D.eq z d
  | [] => rfl
  | a :: l => by
    simp only [D.pys, List.countP_cons, py_eq, pys_count d l]
section
variable {X : Cx} {W : WX} {a b : Expr} {pos : Pos} {m n : M Vl}
def rSome (K : PySem.W.Frag) (tup : Bool) (f : List D → D → Option D) : V → List V → Hp → VK → Prop := fun x xs H Q => ∃ p vs l y d z, x = V.ref p ∧ xs = [y] ∧ (if tup then SqT K H p vs else SqL K H p vs) ∧ DpAll K H vs (D.pys l) ∧ Dp K H y d.py ∧ d.dep ≤ 60 ∧ f l d = some z ∧ ∀ w, (∀ S, rep K S H z w) → Q w H
theorem room60 {A : Around} {x d : Nat} (hu : A.units + 66 < cLine) (h : d ≤ 60) : A.units + 1 + min x d < cLine := by omega
theorem mt_ixT (hu : X.A.units + 66 < cLine) : MtR X "tuple.index" (rSome X.K true fIx) := by
  intro pins s σ H x xs v us Q I rx rxs hh
  obtain ⟨p, vs, l, y, d, z, rfl, rfl, hs, hl, hd, hz, hf, q⟩ := hh
  rw [if_pos rfl] at hs
  cases rx
  obtain ⟨u, rfl, ru⟩ := vals1 rxs
  obtain ⟨its, r, ⟨⟨cls, dd, data, sl⟩, ho, hc, n, hdt⟩, _⟩ := I.tuple hs
  simp only at hc hdt
  subst hc hdt
  obtain ⟨as, rs⟩ := Dp.readsAll I _ _ its hl r
  obtain ⟨bs, r1⟩ := Dp.reads I _ y u hd ru
  unfold fIx at hf
  obtain ⟨j, hj, rfl⟩ := Option.map_eq_some_iff.mp hf
  rw [← pys_find] at hj
  obtain ⟨h1, h2, h3⟩ := SeqAt.hit_at (vs := its.toArray) rs (pys_plain l) hj
  exact call_meets PySem.F.slot_tuple_index ⟨_, ho, rfl⟩ PySem.F.entry_tuple_index (PySem.F.args_tuple_index_2 _ _) (TI.tuple_indexAt p its.toArray n dd sl u (fun w => PyData.eqv (SeqAt.readOf s.heap w) d.py) j h1 h2 h3)
    ⟨ho, SeqAt.items_plain (vs := its.toArray) rs r1 (pys_plain l) (py_plain d) (room60 hu (by rw [py_dep]; exact hz)), ⟨.int (j : Nat), H, I.tok _, ⟨_, rfl⟩, q _ fun S => rep_int _⟩⟩
theorem mt_ixL (hu : X.A.units + 66 < cLine) : MtR X "list.index" (rSome X.K false fIx) := by
  intro pins s σ H x xs v us Q I rx rxs hh
  obtain ⟨p, vs, l, y, d, z, rfl, rfl, hs, hl, hd, hz, hf, q⟩ := hh
  rw [if_neg Bool.false_ne_true] at hs
  cases rx
  obtain ⟨u, rfl, ru⟩ := vals1 rxs
  obtain ⟨its, r, ⟨⟨cls, dd, data, sl⟩, n, ho, hc, hdn, hdt⟩, hlen⟩ := I.list hs
  simp only at hc hdt
  subst hc hdt
  obtain ⟨as, rs⟩ := Dp.readsAll I _ _ its hl r
  obtain ⟨bs, r1⟩ := Dp.reads I _ y u hd ru
  unfold fIx at hf
  obtain ⟨j, hj, rfl⟩ := Option.map_eq_some_iff.mp hf
  rw [← pys_find] at hj
  obtain ⟨h1, h2, h3⟩ := SeqAt.hit_at (vs := its.toArray) rs (pys_plain l) hj
  have hj2 : j < its.length := by simpa using h1
  have hsz := sizeLine_eq
  have hr := r.length
  exact call_meets PySem.F.slot_list_index ⟨_, ho, rfl⟩ PySem.F.entry_list_index (PySem.F.args_list_index_2 _ _) (SeqAt.list_indexAt p its.toArray n dd sl u (fun w => PyData.eqv (SeqAt.readOf s.heap w) d.py) j h1 (by omega) h2 h3)
    ⟨ho, SeqAt.items_plain (vs := its.toArray) rs r1 (pys_plain l) (py_plain d) (room60 hu (by rw [py_dep]; exact hz)), ⟨.int (j : Nat), H, I.tok _, ⟨_, rfl⟩, q _ fun S => rep_int _⟩⟩
theorem mt_ctL (hu : X.A.units + 66 < cLine) : MtR X "list.count" (rSome X.K false fCt) := by
  intro pins s σ H x xs v us Q I rx rxs hh
  obtain ⟨p, vs, l, y, d, z, rfl, rfl, hs, hl, hd, hz, hf, q⟩ := hh
  rw [if_neg Bool.false_ne_true] at hs
  cases rx
  obtain ⟨u, rfl, ru⟩ := vals1 rxs
  obtain ⟨its, r, pl, hlen⟩ := I.list hs
  obtain ⟨as, rs⟩ := Dp.readsAll I _ _ its hl r
  obtain ⟨bs, r1⟩ := Dp.reads I _ y u hd ru
  unfold fCt at hf
  cases hf
  refine SeqAt.count_list_data (vs := its.toArray) pl.isList rs r1 (pys_plain l) (py_plain d) (room60 hu (by rw [py_dep]; exact hz)) ⟨.int _, H, I.tok _, ⟨_, rfl⟩, ?_⟩
  rw [pys_count]
  exact q _ fun S => rep_int _
theorem mt_ctT (hu : X.A.units + 66 < cLine) : MtR X "tuple.count" (rSome X.K true fCt) := by
  intro pins s σ H x xs v us Q I rx rxs hh
  obtain ⟨p, vs, l, y, d, z, rfl, rfl, hs, hl, hd, hz, hf, q⟩ := hh
  rw [if_pos rfl] at hs
  cases rx
  obtain ⟨u, rfl, ru⟩ := vals1 rxs
  obtain ⟨its, r, ⟨o, e1, e2, n, e3⟩, _⟩ := I.tuple hs
  obtain ⟨as, rs⟩ := Dp.readsAll I _ _ its hl r
  obtain ⟨bs, r1⟩ := Dp.reads I _ y u hd ru
  unfold fCt at hf
  cases hf
  refine SeqAt.count_tuple_data (vs := its.toArray) ⟨o, e1, e2, n, e3⟩ rs r1 (pys_plain l) (py_plain d) (room60 hu (by rw [py_dep]; exact hz)) ⟨.int _, H, I.tok _, ⟨_, rfl⟩, ?_⟩
  rw [pys_count]
  exact q _ fun S => rep_int _
/-- x.m(y), x a tuple that is known to the object -/
theorem pe_bmT {o e : Expr} {es : List Expr} {to : TE} {t : TA} {name : Str} {apos cpos : Pos} {id : String} {r : V → List V → Hp → VK → Prop} (pa : PlainAttrs "tuple") (slot : Slot "tuple" name id) (hty : typeOf (.builtin id) = pure (.type "method_descriptor")) (hm : MtR X id r) (ho : PE X o to) (ha : PA X (e :: es) t)
    (hbase : attributeBase o name X.env (eval o X.env) = eval o X.env)
    (hfew : ((backTo cpos (starEach (e :: es) X.env)).all (fun x => !x.1) && (backToKw cpos (keywordEach [] X.env)).all (fun x => x.1.isSome) && decide ((e :: es).length + ([] : List Keyword).length + (if ([] : List Keyword).isEmpty then 0 else 1) < 30)) = true)
    (hline : (apos.endLine == cpos.line) = true) (hs : starEach (e :: es) X.env = (false, eval e X.env) :: starEach es X.env) (hplain : (backTo cpos (starEach es X.env)).any (·.1) = false) :
    PE X (.Call (.Attribute o name apos) (e :: es) [] cpos) (fun σ H Q => to σ H fun x H1 => (∃ p vs, x = .ref p ∧ ExT H1 p vs) ∧ t σ H1 fun xs H2 => r x xs H2 Q) := by
  refine ⟨fun pins s σ H Q I h => wpAny_Call_method_late hbase hfew hline rfl (thn (ho.run pins s σ H _ I h) fun v s1 ⟨x, H1, I1, r1, ty, q1⟩ => ?_)⟩
  obtain ⟨p, vs, rfl, ob, hob, hdn⟩ := ty
  cases r1
  obtain ⟨e1, _, its, _, o2, e2, e3, _⟩ := I1.hok p _ hob
  rw [e1] at e2
  cases e2
  refine ⟨"tuple", id, pa, slot, hty, ⟨_, e1, e3⟩, fun a ea => by cases ea; exact ⟨_, e1, hdn⟩, ?_⟩
  have hA := ha.run cpos pins s1 σ H1 _ I1 q1
  rw [hs] at hA ⊢
  exact Calls.callWith_builtin (by show (false || (backTo cpos (starEach es X.env)).any (·.1)) = false; rw [hplain] <;> rfl) (Calls.evalArgs_plain (thn hA fun us s2 ⟨ws, H2, I2, r2, q2⟩ => hm pins s2 σ H2 (.ref p) ws _ us Q I2 rfl r2 q2))
theorem met_fin {K : PySem.W.Frag} {mg : Str → Option Value} {f : List D → D → Option D} {S1 S2 : SP'} {S : SP'} {H H2 : Hp} {fp fp2 fy : List Addr} {σ : L2.St} {e2 : En} {l : List D} {y : Vl} {p : Addr} {vs : List V} {u : V} {Q : VK} {tp : Bool} (hq : if tp then SqT K H2 p vs else SqL K H2 p vs) (hr : reps K S2 H2 l vs)
    (ext2 : Ext S H fp S2 H2 (fy ++ fp2)) (wd2 : Wd K S2 H2 e2 fp2 σ) (sep2 : Sep S2 H2 (fy ++ fp2)) (ry : repV K S2 H2 y fy u)
    (p2 : (kMet f l y e2).post (fun y e' => ∀ S' H' fp' fy u, Ext S H fp S' H' (fy ++ fp') → Wd K S' H' e' fp' σ → Sep S' H' (fy ++ fp') → repV K S' H' y fy u → Q u H') (fun x e' => exW K mg W S H fp σ x e')) : rSome K tp f (.ref p) [u] H2 Q := by
  unfold kMet at p2
  cases hd : y.d with
  | none => rw [hd] at p2; exact p2.elim
  | some d =>
    rw [hd] at p2
    dsimp only at p2
    split at p2
    · rename_i hz
      cases hf : f l d with
      | none => rw [hf] at p2; exact p2.elim
      | some z =>
        rw [hf] at p2
        exact ⟨p, vs, l, u, d, z, rfl, rfl, hq, hr.dp, ry.rp.dp hd, hz, hf, fun w hw => p2 S2 H2 fp2 [] w ext2.drop wd2 wd2.sep ⟨rfl, hw S2⟩⟩
    · exact p2.elim
theorem de_metT {f : List D → D → Option D} {name : Str} {apos : Pos} {id : String} (slot : Slot "tuple" name id) (hty : typeOf (.builtin id) = pure (.type "method_descriptor")) (hm : MtR X id (rSome X.K true f)) (ha : DE X W a m) (hb : DE X W b n)
    (hbase : attributeBase a name X.env (eval a X.env) = eval a X.env := by rfl)
    (hfew : ((backTo pos (starEach (b :: []) X.env)).all (fun x => !x.1) && (backToKw pos (keywordEach [] X.env)).all (fun x => x.1.isSome) && decide (([b] : List Expr).length + ([] : List Keyword).length + (if ([] : List Keyword).isEmpty then 0 else 1) < 30)) = true := by rfl)
    (hline : (apos.endLine == pos.line) = true := by rfl) (hs : starEach (b :: []) X.env = (false, eval b X.env) :: starEach [] X.env := by rfl) (hpl : (backTo pos (starEach [] X.env)).any (·.1) = false := by rfl) :
    DE X W (.Call (.Attribute a name apos) [b] [] pos) (eMetT f m n) := by
  refine ⟨PEm (pe_bmT PySem.F.plainAttrs_tuple slot hty hm ha.p (pa_cons hb.p pa_nil hs) hbase hfew hline hs hpl) fun σ H Q h => ?_⟩
  refine TR.bind (R' := repV X.K) (k := kMetT f n) (Q := Q) h fun S e fp S1 H1 e1 fp1 fx x v wd ext wd1 sep1 rx p => ?_
  unfold kMetT at p
  split at p
  · rename_i l
    have hx := rep_v rx
    have hx' := hx
    unfold rep at hx'
    obtain ⟨pa, vs, rfl, h1, h2⟩ := hx'
    refine ⟨⟨pa, vs, rfl, h1⟩, ?_⟩
    obtain rfl : fx = [] := rx.1
    refine TR.next (fx := []) (R' := repV X.K) (k := fun y e => kMet f l y e) (Q := Q) wd1 ext sep1 p fun S2 H2 e2 fp2 fy y u ext2 st keep wd2 sep2 ry p2 => ?_
    have q2 := h1.stb st
    have r2 := reps.stb st _ _ h2
    exact met_fin (S1 := S1) (tp := true) (by rw [if_pos rfl]; exact q2.sq) r2 (by simpa using ext2) wd2 (by simpa using sep2) ry p2
  · exact p.elim
theorem de_metL {f : List D → D → Option D} {name : Str} {apos : Pos} {id : String} (slot : Slot "list" name id) (hty : typeOf (.builtin id) = pure (.type "method_descriptor")) (hm : MtR X id (rSome X.K false f)) (ha : DE X W a m) (hb : DE X W b n)
    (hbase : attributeBase a name X.env (eval a X.env) = eval a X.env := by rfl)
    (hfew : ((backTo pos (starEach (b :: []) X.env)).all (fun x => !x.1) && (backToKw pos (keywordEach [] X.env)).all (fun x => x.1.isSome) && decide (([b] : List Expr).length + ([] : List Keyword).length + (if ([] : List Keyword).isEmpty then 0 else 1) < 30)) = true := by rfl)
    (hline : (apos.endLine == pos.line) = true := by rfl) (hs : starEach (b :: []) X.env = (false, eval b X.env) :: starEach [] X.env := by rfl) (hpl : (backTo pos (starEach [] X.env)).any (·.1) = false := by rfl) :
    DE X W (.Call (.Attribute a name apos) [b] [] pos) (eMetL f m n) := by
  refine ⟨PEm (pe_bm PySem.F.plainAttrs_list slot hty hm ha.p (pa_cons hb.p pa_nil hs) hbase hfew hline hs hpl) fun σ H Q h => ?_⟩
  refine TR.bind (R' := repV X.K) (k := kMetL f n) (Q := Q) h fun S e fp S1 H1 e1 fp1 fx x v wd ext wd1 sep1 rx p => ?_
  unfold kMetL at p
  cases hl : x.lst? with
  | none => rw [hl] at p; exact p.elim
  | some l =>
    rw [hl] at p
    have hd : x.d = some (.lst l) := by
      unfold Vl.lst? at hl
      split at hl <;> cases hl <;> rfl
    obtain ⟨ext1, wd1', rd⟩ := froze_wait ext wd1 sep1 hd rx
    unfold rep at rd
    obtain ⟨pa, vs, rfl, h1, h2⟩ := rd
    refine ⟨.inl ⟨rfl, vs, h1.sq⟩, ?_⟩
    refine TR.next (fx := []) (R' := repV X.K) (k := fun y e => kMet f l y e) (Q := Q) wd1' (by simpa using ext1) (by simpa using wd1'.sep) p fun S2 H2 e2 fp2 fy y u ext2 st keep wd2 sep2 ry p2 => ?_
    have q2 := h1.stb st
    have r2 := reps.stb st _ _ h2
    exact met_fin (S1 := S1) (tp := false) (by rw [if_neg Bool.false_ne_true]; exact q2.sq) r2 (by simpa using ext2) wd2 (by simpa using sep2) ry p2
end
section
variable {X : Cx} {W : WX} {a b : Expr} {pos apos : Pos} {m n : M Vl}
end
end Fx
end

section
set_option Elab.async false
set_option linter.all false
set_option maxRecDepth 100000
set_option maxHeartbeats 4000000
/-! Wv: ranges held by a name. -/
namespace Fx
open PySem PySem.Spec PyProof.Rows L2
section
variable {X : Cx} {W : WX} {a b c : Expr} {pos : Pos} {m n : M Vl}
theorem bb_range : bootBuiltins "range" = some (.type "range") := by decide +kernel
theorem cr_range1 : CallR X (.type "range") (fun vs H Q => ∃ j, vs = [V.int j] ∧ ∀ p, H p = none → Q (.ref p) (upd H p (.rng 0 j))) := by
  intro pins s σ H vs us Q I r h
  obtain ⟨j, rfl, q⟩ := h
  obtain ⟨u, rfl, ru⟩ := vals1 r
  obtain ⟨t, rfl⟩ := ru
  refine call_range_1 ⟨.ref s.heap.objs.size, upd H s.heap.objs.size (.rng 0 j), I.laid (t' := s.toks + 1 + 1) (fun b o e => Heap.get?_push_of_some _ e) (Nat.le_refl _) ?_, rfl, q _ (I.hok.fresh (Nat.le_refl _))⟩
  exact ⟨_, _, _, Heap.get?_push_size _ rfl⟩
theorem ok_rg {K : PySem.W.Frag} : Op1 K (RP K) oRg (fun x H Q => ∃ j, [x] = [V.int j] ∧ ∀ p, H p = none → Q (.ref p) (upd H p (.rng 0 j))) := by
  intro S H x z fx u Q e dom sep rx h
  unfold oRg at e
  split at e
  · rename_i j
    split at e
    · cases e
      obtain ⟨h1, h2⟩ := rx
      unfold rep at h2
      refine ⟨j, by rw [h2], fun p hp => h _ [] _ (fun a o ha => ?_) (fun a ha => absurd ha (by simp)) Sep.nil ⟨rfl, p, rfl, upd_same⟩⟩
      rw [upd_ne (ne_of_none ha hp)]
      exact ha
    · cases e
  · cases e
theorem de_rg {p : Pos} (ha : DP X W a m) (hm : X.mg "range" = none) (hg : Gl X "range" := by rfl)
    (he : starEach (a :: []) X.env = (false, eval a X.env) :: starEach [] X.env := by rfl) (hpl : (backTo pos (starEach [] X.env)).any (·.1) = false := by rfl) : DE X W (.Call (.Name "range" p) [a] [] pos) (e1 oRg m) :=
  de_t1 cr_range1 ok_rg ha hm bb_range hg (by decide) (by decide) he hpl
theorem pi_rgv {tg e : Expr} {t : TE} (h : PE X e t) : PI X tg e (fun σ H R => t σ H fun x H1 => ∃ a lo hi, x = .ref a ∧ H1 a = some (.rng lo hi) ∧ (-(2 ^ 62) ≤ lo ∧ lo < 2 ^ 62 ∧ -(2 ^ 62) ≤ hi ∧ hi < 2 ^ 62) ∧ R (Itr lo (hi - lo).toNat) H1) := by
  refine ⟨fun pins s σ H R I hw => ?_⟩
  refine thn (h.run pins s σ H _ I hw) fun v s1 ⟨x, H1, I1, r1, a, lo, hi, e1, ha, ⟨h1, h2, h3, h4⟩, q⟩ => ?_
  subst e1
  cases r1
  obtain ⟨t1, t2, t3, ho⟩ := I1.hok a _ ha
  refine wpAny_pyIter_range (show IsRange s1.heap a lo hi 1 t1 t2 t3 from ho) (small_one h1 h2 h3 h4) ?_
  have I2 : Inv X pins σ H1 { s1 with heap := s1.heap.push { cls := .type "range_iterator", data := .fields #[rawInt lo, rawInt (Builtin.Range.rangeSize lo hi 1), rawInt 1] } } := I1.kept (t' := s1.toks) fun b o e => Heap.get?_push_of_some _ e
  refine ⟨s1.heap.objs.size, [s1.heap.objs.size], _, _, H1, rfl, I2, turn_range s1.heap.objs.size lo (hi - lo).toNat, ?_, fun b hb => ?_, q⟩
  · have e1 : lo + ((0 : Nat) : Int) * 1 = lo := by simp
    have e2 : (((hi - lo).toNat : Nat) : Int) - ((0 : Nat) : Int) = Builtin.Range.rangeSize lo hi 1 := by rw [rangeSize_one]; split <;> omega
    show IsRangeIter _ _ (lo + ((0 : Nat) : Int) * 1) ((((hi - lo).toNat : Nat) : Int) - ((0 : Nat) : Int)) 1
    rw [e1, e2]
    exact Heap.get?_push_size _ rfl
  · have e : b = s1.heap.objs.size := by simpa using hb
    subst e
    exact I1.fpOk (Nat.le_refl _) (I1.hok.fresh (Nat.le_refl _))
theorem di_rv {tg : Expr} (i : Nat) {x : Str} (hN : X.N[i]? = some x := by rfl) (hv : Vis X.env.scope x := by first | exact Or.inl rfl | exact Or.inr (Or.inl rfl) | exact Or.inr (Or.inr rfl)) (hd : (x == ("__debug__" : Str)) = false := by decide)
    (hcd : (x == ("__classdict__" : Str)) = false := by decide) : DI X W tg (.Name x pos) (iRv i) := by
  refine ⟨PIm (pi_rgv (pe_var hN hv hd hcd)) fun σ H R ⟨S, e, fp, wd, p⟩ => ?_⟩
  unfold iRv at p
  split at p
  · rename_i lo hi he
    split at p
    · rename_i hs
      simp only [Bool.and_eq_true] at hs
      obtain ⟨s1, s2⟩ := small_of hs.1
      obtain ⟨s3, s4⟩ := small_of hs.2
      obtain ⟨v, f1, f2, f3, q1, q2, q3, q4⟩ := wd.env.at he
      obtain ⟨r1, a, r2, r3⟩ := q3
      exact ⟨v, q1, a, lo, hi, r2, r3, ⟨by omega, by omega, by omega, by omega⟩, p S H fp [] _ (Ext.refl S H fp) wd wd.sep ⟨rfl, wk_rng⟩⟩
    · exact p.elim
  · exact p.elim
end
end Fx
end

section
set_option Elab.async false
set_option linter.all false
set_option maxRecDepth 100000
set_option maxHeartbeats 4000000
/-! Wz: sorted of rows of whole numbers; unpacking a list; the length of a list of one's own lists. -/
namespace Fx
open PySem PySem.Spec PyProof.Rows L2 PySem.W PySem.Calls
/-! ### sorted(tuples of ints) -/
def rSortT (K : Frag) : List V → Hp → VK → Prop := fun vs H Q => ∃ (a : Addr) (xs : List V) (S : SP') (rs : List (List Int)), vs = [V.ref a] ∧ (SqL K H a xs ∨ SqT K H a xs) ∧ reps K S H (rs.map tiD) xs ∧ (∀ r ∈ rs, r ≠ []) ∧
  ∀ ys p, H p = none → ys.length = xs.length → reps K S H ((rs.mergeSort fun a b => decide (a ≤ b)).map tiD) ys → Q (.ref p) (upd H p (.lst ys))
theorem pys_ints : ∀ r : List Int, D.pys (r.map .int) = r.map PyData.int
  | [] => rfl
  | i :: r => by simp only [List.map_cons, D.pys, D.py, pys_ints r]
theorem pys_tis : ∀ rs : List (List Int), D.pys (rs.map tiD) = rs.map fun r => PyData.tuple (r.map PyData.int)
  | [] => rfl
  | r :: rs => by simp only [List.map_cons, D.pys, tiD, D.py, pys_ints, pys_tis rs]
theorem dataLe_tis : dataLe false (fun r : List Int => PyData.tuple (r.map PyData.int)) = fun a b => decide (a ≤ b) := by
  funext p q
  show (!dataLt (.tuple (q.map .int)) (.tuple (p.map .int))) = _
  rw [dataLt_tuple]
  show (!rowLt (q.map .int) (p.map .int)) = _
  rw [dataLt_ints]
  by_cases h : q < p
  · have h' : ¬ p ≤ q := fun r => List.not_lt.mpr r h
    simp [h, h']
  · have h' : p ≤ q := List.not_lt.mp h
    simp [h, h']
section
variable {K : Frag} {S : SP'} {H : Hp}
theorem each_tis : ∀ {rs : List (List Int)} {xs : List V} {us : List Value}, reps K S H (rs.map tiD) xs → Vals xs us → EachIs (fun v r => ∃ x, rep K S H (tiD r) x ∧ RelV x v) us rs
  | [], _, _, h, r => by
    unfold reps at h
    subst h
    cases r
    exact .nil
  | r0 :: rs, _, _, h, r => by
    rw [List.map_cons] at h
    unfold reps at h
    obtain ⟨v, q, rfl, h1, h2⟩ := h
    cases r with
    | cons r1 r2 => exact .cons ⟨v, h1, r1⟩ (each_tis h2 r2)
theorem tis_each : ∀ {rs : List (List Int)} {us : List Value}, EachIs (fun v r => ∃ x, rep K S H (tiD r) x ∧ RelV x v) us rs → ∃ ys, reps K S H (rs.map tiD) ys ∧ Vals ys us
  | _, _, .nil => ⟨[], by simp [reps], .nil⟩
  | _, _, .cons ⟨x, h1, h2⟩ t => by
    obtain ⟨ys, h3, h4⟩ := tis_each t
    exact ⟨x :: ys, by rw [List.map_cons]; exact reps.cons h1 h3, .cons h2 h4⟩
end
theorem cr_sortT {X : Cx} (hu : X.A.units + 66 < cLine) : CallR X (.builtin "sorted") (rSortT X.K) := by
  intro pins s σ H vs us Q I r h
  obtain ⟨a, xs, S, rs, rfl, hs, hr, hne, q⟩ := h
  have hlr : rs.length = xs.length := by have := hr.length; rwa [List.length_map] at this
  have hd : dataLe false (fun r : List Int => PyData.tuple (r.map PyData.int)) = fun a b => decide (a ≤ b) := dataLe_tis
  have key : ∀ (its : List Value), xs.length ≤ sizeLine → ∀ out : List Value, out.length = rs.length → EachIs (fun v r => ∃ x, rep X.K S H (tiD r) x ∧ RelV x v) out (rs.mergeSort (dataLe false fun r : List Int => PyData.tuple (r.map PyData.int))) →
      EP X pins σ Q (.ref (s.heap.objs.size + 1)) { s with heap := sortedAll s.heap its (List.toArray out) } := fun its hz out hl e => by
    obtain ⟨ep, he'⟩ := PyProof.Rows.sortedAll_at s.heap its (List.toArray out)
    rw [hd] at e
    obtain ⟨ys, h1, h2⟩ := tis_each e
    have hy : ys.length = xs.length := by rw [Vals.length h2, hl, hlr]
    exact ⟨.ref _, upd H (s.heap.objs.size + 1) (.lst ys), I.laid (t' := s.toks) (fun _ _ => PyProof.Rows.sortedAll_old) (Nat.le_succ _) ⟨by omega, out, ep, h2, he'⟩, rfl, q _ _ (I.hok.fresh (Nat.le_succ _)) hy h1⟩
  have hal : AllAlike (rs.map fun r => PyData.tuple (r.map PyData.int)) := AllAlike.of fun r r' => by simp only [alike]; exact alike_ints r r'
  have hk : Sortable (rs.map fun r => PyData.tuple (r.map PyData.int)) := .inl fun d hd => by
    obtain ⟨b, hb, rfl⟩ := List.mem_map.mp hd
    cases b with
    | nil => exact absurd rfl (hne _ hb)
    | cons x r => exact ⟨_, _, rfl⟩
  have hb : ∀ b : List Int, b ∈ rs → X.A.units + 2 + (PyData.tuple (b.map PyData.int)).depth < cLine := fun b _ => by simp only [PyData.depth, depth_ints]; omega
  rcases hs with hs | hs
  · obtain ⟨its, rv, hl, hz⟩ := I.list hs
    rw [Vals.ref1 r]
    obtain ⟨as, ra⟩ := Dp.readsAll I _ xs its hr.dp rv
    rw [pys_tis] at ra
    exact sorted_data hl.isList (each_tis hr rv) (readsAll_each _ ra) hal hk (by omega) hb (key its hz)
  · obtain ⟨its, rv, hl, hz⟩ := I.tuple hs
    rw [Vals.ref1 r]
    obtain ⟨as, ra⟩ := Dp.readsAll I _ xs its hr.dp rv
    rw [pys_tis] at ra
    exact sorted_data_tup hl (each_tis hr rv) (readsAll_each _ ra) hal hk (by omega) hb (key its hz)
theorem tis_of : ∀ {l : List D} {rs : List (List Int)}, D.introws l = some rs → l = rs.map tiD ∧ ∀ r ∈ rs, r ≠ []
  | [], _, h => by cases h; simp
  | .tup (d :: m) :: l, _, h => by
    simp only [D.introws] at h
    cases q1 : D.ints (d :: m) with
    | none => rw [q1] at h; cases h
    | some ns =>
      cases q2 : D.introws l with
      | none => rw [q1, q2] at h; cases h
      | some rs =>
        rw [q1, q2] at h
        cases h
        obtain ⟨h1, h2⟩ := tis_of q2
        have hi : ∀ {l : List D} {ns : List Int}, D.ints l = some ns → l = ns.map .int := by
          intro l
          induction l with
          | nil => intro ns e; simp [D.ints] at e; subst e; rfl
          | cons d l ih =>
            intro ns e
            cases d <;> simp only [D.ints] at e <;> try cases e
            rename_i i
            cases q : D.ints l with
            | none => rw [q] at e; cases e
            | some ms => rw [q] at e; cases e; rw [ih q]; rfl
        refine ⟨by rw [List.map_cons, ← h1]; congr 1; unfold tiD; rw [← hi q1], ?_⟩
        intro r hr
        rcases List.mem_cons.mp hr with rfl | hr
        · intro z
          subst z
          have := hi q1
          cases this
        · exact h2 r hr
  | .tup [] :: _, _, h => by cases h
  | .non :: _, _, h => by cases h
  | .int _ :: _, _, h => by cases h
  | .str _ :: _, _, h => by cases h
  | .bl _ :: _, _, h => by cases h
  | .lst _ :: _, _, h => by cases h
theorem ok_sortT {K : Frag} : Op1 K (RP K) oSortT (fun x H Q => rSortT K [x] H Q) := by
  intro S H x z fx u Q e dom sep rx h
  unfold oSortT at e
  cases q : x.items with
  | none => rw [q] at e; cases e
  | some l =>
    rw [q, Option.bind_some] at e
    cases q2 : D.introws l with
    | none => rw [q2] at e; cases e
    | some rs =>
      rw [q2] at e
      cases e
      obtain ⟨a, vs, h1, h2, h3⟩ := rx.items q
      obtain ⟨hl, hne⟩ := tis_of q2
      rw [hl] at h3
      refine ⟨a, vs, S, rs, by rw [h1], h2, h3, hne, fun ys p hp hy hr => ?_⟩
      obtain ⟨k, fr, sp, rt⟩ := fresh_lst hr hp dom
      exact h _ [p] _ k fr sp rt
/-- either kind -/
theorem cr_or {X : Cx} {f : Value} {r1 r2 : List V → Hp → VK → Prop} (h1 : CallR X f r1) (h2 : CallR X f r2) : CallR X f (fun vs H Q => r1 vs H Q ∨ r2 vs H Q) := by
  intro pins s σ H vs us Q I r h
  rcases h with h | h
  · exact h1 pins s σ H vs us Q I r h
  · exact h2 pins s σ H vs us Q I r h
theorem ok_sort {K : Frag} : Op1 K (RP K) oSort (fun x H Q => rSortI K [x] H Q ∨ rSortT K [x] H Q) := by
  intro S H x z fx u Q e dom sep rx h
  unfold oSort at e
  split at e
  · rename_i y q
    cases e
    exact .inl (ok_sortI S H x _ fx u Q q dom sep rx h)
  · exact .inr (ok_sortT S H x z fx u Q e dom sep rx h)
section
variable {X : Cx} {W : WX} {a b c : Expr} {pos : Pos} {m n : M Vl}
theorem de_sort {p : Pos} (hu : X.A.units + 66 < cLine) (ha : DP X W a m) (hm : X.mg "sorted" = none) (hg : Gl X "sorted" := by rfl)
    (he : starEach (a :: []) X.env = (false, eval a X.env) :: starEach [] X.env := by rfl) (hpl : (backTo pos (starEach [] X.env)).any (·.1) = false := by rfl) : DE X W (.Call (.Name "sorted" p) [a] [] pos) (e1 oSort m) := de_b1 (cr_or (cr_sortI hu) (cr_sortT hu)) ok_sort ha hm (by decide +kernel) hg (by decide) (by decide) he hpl
/-! ### a, b = a list -/
theorem pg_or {tg : Expr} {t1 t2 : TG} (h1 : PG X tg t1) (h2 : PG X tg t2) : PG X tg (fun v σ H Q => t1 v σ H Q ∨ t2 v σ H Q) := by
  refine ⟨fun pins s σ H v u Q I r hw => ?_⟩
  rcases hw with h | h
  · exact h1.run pins s σ H v u Q I r h
  · exact h2.run pins s σ H v u Q I r h
theorem dg_tl {ts : List Nat} {gr : List (D → En → Option En)} {es : List Expr} {k : Nat} (hc : X.calm = true) (h : DGs X ts es gr) (hl : gr.length = (assignEach es X.env).length := by rfl) (hst : (assignEach es X.env).findIdx? (·.1) = none := by rfl) :
    DG X ts (.Tuple es k pos) (gL gr) false := ⟨PGm (pg_or (pg_tup hc h.p rfl hst) (pg_lst hc h.p rfl hst)) fun v σ H Q ⟨S, e, fp, d, e', wd, r, h, q⟩ => by
  unfold gL at h
  cases d with
  | tup l =>
    dsimp only at h
    have r2 : rep X.K S H (.tup l) v := r
    unfold rep at r2
    obtain ⟨a0, vs, e0, e2, h2⟩ := r2
    exact .inl ⟨a0, vs, e0, e2.sq, by rw [← h2.length, gs_len h, hl], S, e, fp, l, e', wd, h2, h, q⟩
  | lst l =>
    dsimp only at h
    have r2 : rep X.K S H (.lst l) v := r
    unfold rep at r2
    obtain ⟨a0, vs, e0, e2, h2⟩ := r2
    exact .inr ⟨a0, vs, e0, e2.sq, by rw [← h2.length, gs_len h, hl], S, e, fp, l, e', wd, h2, h, q⟩
  | _ => cases h⟩
/-! ### len of a list of one's own lists -/
theorem de_lenO (k : Nat) {x : Str} {p p1 : Pos} (hm : X.mg "len" = none) (hN : X.N[k]? = some x := by rfl) (hv : Vis X.env.scope x := by first | exact Or.inl rfl | exact Or.inr (Or.inl rfl) | exact Or.inr (Or.inr rfl)) (hd : (x == ("__debug__" : Str)) = false := by decide)
    (hcd : (x == ("__classdict__" : Str)) = false := by decide) (hg : Gl X "len" := by rfl)
    (he : starEach (.Name x p1 :: []) X.env = (false, eval (.Name x p1) X.env) :: starEach [] X.env := by rfl) (hpl : (backTo pos (starEach [] X.env)).any (·.1) = false := by rfl) : DE X W (.Call (.Name "len" p) [.Name x p1] [] pos) (eLenO k) := by
  refine ⟨PEm (pe_callB call_len_seq hg hm PySem.boot_len (pa_cons (pe_var hN hv hd hcd) pa_nil he) (by decide) (by decide) he hpl) fun σ H Q h => ?_⟩
  obtain ⟨S, e, fp, wd, p⟩ := h
  unfold eLenO at p
  split at p
  · rename_i l hl
    obtain ⟨v, fx, h1, h2, _⟩ := wd_at wd hl
    obtain ⟨a0, vs, as, e1, _, e3, e4⟩ := h2
    subst e1
    refine ⟨_, h1, ?_⟩
    refine ⟨a0, vs, rfl, .inl (.inl (.inl e3)), ?_⟩
    have := e4.length.1
    exact p S H fp [] _ (Ext.refl S H fp) wd wd.sep ⟨rfl, by rw [this]; exact rep_int _⟩
  · exact p.elim
end
end Fx
end

section
set_option Elab.async false
set_option linter.all false
set_option maxRecDepth 100000
set_option maxHeartbeats 4000000
/-! Wzz: zip; a place whose index is reckoned; any of whole numbers. -/
namespace Fx
open PySem PySem.Spec PyProof.Rows L2
section
variable {X : Cx} {W : WX} {a b c : Expr} {pos : Pos} {m n : M Vl}
theorem di_zip {elts : List Expr} {kk : Nat} {tpos p : Pos} (ha : DE X W a m) (hb : DE X W b n) (hm : X.mg "zip" = none) (hg : Gl X "zip" := by rfl)
    (hs : starEach [a, b] X.env = (false, eval a X.env) :: starEach [b] X.env := by rfl) (hpl : (backTo pos (starEach [b] X.env)).any (·.1) = false := by rfl)
    (he2 : starEach (b :: []) X.env = (false, eval b X.env) :: starEach [] X.env := by rfl) :
    DI X W (.Tuple elts kk tpos) (.Call (.Name "zip" p) [a, b] [] pos) (iZipS m n) true := by
  refine ⟨PIm (RZ.pi_zipA hg hm (pa_cons ha.p (pa_cons hb.p pa_nil he2) hs) hs hpl) fun σ H R q => ?_⟩
  refine TR.bind (k := fun x e => (n e).then fun y e => kZip x y e) q fun S e fp S1 H1 e1 fp1 fx x v wd ext wd1 sep1 rx p => ?_
  refine TR.next (k := fun y e => kZip x y e) wd1 ext sep1 p fun S2 H2 e2 fp2 fy y u ext2 st keep wd2 sep2 ry p2 => ?_
  have rx2 : repV X.K S2 H2 x fx v := rx.stb st keep
  unfold kZip at p2
  split at p2
  · rename_i l l2
    obtain ⟨h1, h2⟩ := rx2
    obtain ⟨h3, h4⟩ := ry
    unfold rep at h2 h4
    obtain ⟨a0, vs, e0, q1, q2⟩ := h2
    obtain ⟨b0, ws, e1', q3, q4⟩ := h4
    exact ⟨a0, b0, vs, ws, by rw [e0, e1'], .inr ⟨q1.sq, q3.sq, p2 S2 H2 fp2 [] _ (ext2.drop.drop) wd2 wd2.sep ⟨rfl, wk_zipT q1.sq q3.sq q2 q4⟩⟩⟩
  · rename_i l l2
    obtain ⟨h1, h2⟩ := rx2
    obtain ⟨h3, h4⟩ := ry
    unfold rep at h2 h4
    obtain ⟨a0, vs, e0, q1, q2⟩ := h2
    obtain ⟨b0, ws, e1', q3, q4⟩ := h4
    exact ⟨a0, b0, vs, ws, by rw [e0, e1'], .inl ⟨q1.sq, q3.sq, p2 S2 H2 fp2 [] _ (ext2.drop.drop) wd2 wd2.sep ⟨rfl, wk_zipL q1 q3 q2 q4⟩⟩⟩
  · exact p2.elim
/-- x[i] = .., the index reckoned behind the value -/
theorem dg_ixM (k : Nat) {x : Str} {p : Pos} (ha : DE X W a m) (hN : X.N[k]? = some x := by rfl) (hv : Vis X.env.scope x := by first | exact Or.inl rfl | exact Or.inr (Or.inl rfl) | exact Or.inr (Or.inr rfl)) (hd : (x == ("__debug__" : Str)) = false := by decide)
    (hcd : (x == ("__classdict__" : Str)) = false := by decide) (hasg : ∀ v, assign (.Subscript (.Name x p) a pos) X.env v = (do
      let ov ← holding [v] (eval (.Name x p) X.env)
      let iv ← holding [v, ov] (eval a X.env)
      standAt pos
      holding [v, ov, iv] (setItem ov iv v)
      release [v, ov, iv] []) := by intro _; rfl) : DG X [] (.Subscript (.Name x p) a pos) (gIxM k m) := by
  refine ⟨PGm (pg_sub (pe_var hN hv hd hcd) ha.p set_list hasg) fun v σ H Q ⟨S, e, fp, d, e', wd, r, h, q⟩ => ?_⟩
  unfold gIxM at h
  split at h
  · rename_i l0 he0
    obtain ⟨a0, vs0, g1, _, _, _⟩ := wd.own he0
    refine ⟨.ref a0, g1, S, e, fp, wd, ?_⟩
    split at h
    · rename_i i e1 hm
      rw [hm]
      intro S' H' fp' fx iv ext wd' sep rx
      split at h
      · rename_i l he
        cases hj : Fx.ixN l.length i with
        | none => rw [hj] at h; cases h
        | some j =>
          rw [hj] at h
          cases h
          obtain ⟨a1, vs, h1, h2, h3, h4⟩ := wd'.own he
          rw [g1] at h1
          cases h1
          have r' : rep X.K S' H' d v := rep.stb (ext.stb wd.sep) d v r
          obtain ⟨wd2, ext2⟩ := h4 (l.set j d) (vs.set j v) (h3.set j r')
          have hiv := rx.2
          unfold rep at hiv
          exact ⟨a0, vs, i, j, rfl, hiv, h2, by rw [← h3.length]; exact hj, q σ S' _ fp' (ext.drop.trans ext2) wd2 (Out1.refl _ _)⟩
      · cases h
    · cases h
  · cases h
theorem smalls_py : ∀ {l : List D} {ns : List Int}, D.smalls l = some ns → D.pys l = ns.map PyData.int ∧ ∀ i ∈ ns, smallI i = true
  | [], _, h => by cases h; exact ⟨rfl, by simp⟩
  | .int i :: l, _, h => by
    simp only [D.smalls] at h
    split at h
    · rename_i hi
      cases q : D.smalls l with
      | none => rw [q] at h; cases h
      | some ns =>
        rw [q] at h
        cases h
        obtain ⟨h1, h2⟩ := smalls_py q
        exact ⟨by simp only [D.pys, D.py, List.map_cons, h1], fun j hj => by
          rcases List.mem_cons.mp hj with rfl | hj
          · exact hi
          · exact h2 j hj⟩
    · cases h
  | .non :: _, _, h => by cases h
  | .bl _ :: _, _, h => by cases h
  | .str _ :: _, _, h => by cases h
  | .tup _ :: _, _, h => by cases h
  | .lst _ :: _, _, h => by cases h
theorem int_truthy (ns : List Int) : (ns.map PyData.int).any PyData.truthy = ns.any fun i => decide (i ≠ 0) := by
  rw [List.any_map]
  congr 1
  funext i
  by_cases h : i = 0 <;> simp [PyData.truthy, h]
theorem int_plain : ∀ ns : List Int, PyData.plainAll (ns.map PyData.int) = true
  | [] => rfl
  | b :: bs => by simp only [List.map_cons, PyData.plainAll, PyData.plain, int_plain bs, Bool.and_self]
theorem int_fits {ns : List Int} (h : ∀ i ∈ ns, smallI i = true) : ∀ x ∈ ns.map PyData.int, x.fits63 := fun x hx => by
  obtain ⟨i, hi, rfl⟩ := List.mem_map.mp hx
  obtain ⟨h1, h2⟩ := small_of (h i hi)
  simp only [PyData.fits63]
  all_goals omega
theorem call_anyI (hc : X.calm = true) : CallR X (.builtin "any") (rIt X.K fun l => (D.smalls l).map fun ns => .bl (ns.any fun i => decide (i ≠ 0))) := by
  intro pins s σ H xs us Q I r h
  obtain ⟨a, vs, l, S, d, rfl, ha, rl, hf, q⟩ := h
  obtain ⟨u, rfl, rx⟩ := vals1 r
  cases rx
  dsimp only at hf
  cases hb : D.smalls l with
  | none => rw [hb] at hf; cases hf
  | some ns =>
    rw [hb] at hf
    cases hf
    obtain ⟨its, rv, hl, as, hr⟩ := items_at I ha rl
    obtain ⟨h1, h2⟩ := smalls_py hb
    rw [h1] at hr
    have fin : ∀ h' tk, (∀ b o, s.heap.get? b = some o → h'.get? b = some o) → EP X pins σ Q (.bool ((ns.map PyData.int).any PyData.truthy)) { s with heap := h', toks := tk } := fun h' tk k =>
      ⟨.bl _, H, I.kept k, rfl, by rw [int_truthy]; exact q _ (rep_bl _)⟩
    rcases hl with hl | hl
    · exact PySem.W.any_list_data (I.ok.hd hc) hl hr (int_plain ns) (int_fits h2) fin
    · exact PySem.W.any_tuple_data (I.ok.hd hc) hl hr (int_plain ns) (int_fits h2) fin
theorem ok_anyI {K : PySem.W.Frag} : Op1 K (RP K) oAnyI (fun x H Q => rIt K (fun l => (D.smalls l).map fun ns => .bl (ns.any fun i => decide (i ≠ 0))) [x] H Q) := ok_it fun x => by
  unfold oAnyI
  cases x.items with
  | none => rfl
  | some l =>
    simp only [Option.bind_some]
    cases D.smalls l <;> rfl
end
end Fx
end

section
set_option Elab.async false
set_option linter.all false
set_option maxRecDepth 100000
set_option maxHeartbeats 4000000
/-! Wal: a def that is known under another name. -/
namespace Fx
open PySem PySem.Spec PyProof.Rows L2
structure DfA (K : PySem.W.Frag) (mg : Str → Option Value) (x own : Str) (ps : List Str) (st : Stmt) : Prop where
  ex : ∃ f fd, Fun K own own st f fd ∧ Binds K fd ps [] ∧ mg x = some (.ref f)
section
variable {P : Program} {w : World} {K : PySem.W.Frag} {mg : Str → Option Value} {base : Heap}
theorem fk_defA {x own qual : Str} {st : Stmt} {f : Addr} {fd : FuncData} {N ps : List Str} {k : Nat} {lent : List Nat} {c : C} (Fn : Fun K own qual st f fd) (sc : FnScope N ps (defScope st)) (bn : Binds K fd ps []) (gm : mg x = some (.ref f)) (hl : lent.length ≤ 1)
    (hb : ∀ (cdv : Value) (A : Around) (outer : List Env) (s : Shared) (H : Hp) (E : XK), Room k (A.deeper (envOfC qual (defScope st) s.heap.objs.size f cdv)) → ∀ B : List (Nat × Addr), B.map (·.1) = lent → DSs (cxOf (L2.CX P w) P w K mg base N qual (defScope st) f cdv A outer s H E) B (fun cls d _ H => E cls d H) (defBody st) c) :
    Fk P w K mg base (k + 1) x ps lent (runDef N.length lent c) := by
  refine ⟨f, fd, Fn.okX sc (fun vs H Q E h => h.1) (fun cdv A outer s H vs Q E hr h => ?_), gm, Fn.kp, bn⟩
  obtain ⟨B, h1, h2⟩ := body_sp hl h
  exact ⟨_, (hb cdv A outer s H E hr B h1).p, h2⟩
end
end Fx
end

section
set_option Elab.async false
set_option linter.all false
set_option maxRecDepth 100000
set_option maxHeartbeats 4000000
/-! Woo: rows[i] += [..] and rows.append([..]) of a list of one's own lists. -/
namespace Fx
open PySem PySem.Spec PyProof.Rows L2
/-- what a name holds, taken out -/
theorem Wd.take {K : PySem.W.Frag} {S : SP'} {H : Hp} {e : En} {fp : List Addr} {σ : L2.St} {k : Nat} {x : Vl} (wd : Wd K S H e fp σ) (he : e[k]? = some (some x)) :
    ∃ v f2 fp', σ[k]? = some (some v) ∧ repV K S H x f2 v ∧ Wd K S H (e.set k none) fp' σ ∧ Sep S H (f2 ++ fp') ∧ (∀ a ∈ f2, a ∈ fp) ∧ (∀ a ∈ fp', a ∈ fp) ∧ ∀ g, Sep S H (g ++ fp) → Sep S H (g ++ (f2 ++ fp')) := by
  obtain ⟨v, f1, f2, f3, q1, q2, q3, q4⟩ := wd.env.at he
  subst q2
  have env := q4 S H none [] (some v) (Stb.refl S H) (fun _ _ => rfl) rfl
  rw [set_same q1] at env
  have perm : (f1 ++ (f2 ++ f3)).Perm (f2 ++ (f1 ++ f3)) := by
    rw [← List.append_assoc, ← List.append_assoc]
    exact List.perm_append_comm.append_right f3
  have hm : ∀ a, a ∈ f2 ++ (f1 ++ f3) ↔ a ∈ f1 ++ (f2 ++ f3) := fun a => perm.symm.mem_iff
  have sep : Sep S H (f2 ++ (f1 ++ f3)) := ⟨perm.nodup_iff.mp wd.sep.nd, fun a q => wd.sep.ns a ((hm a).mp q), fun a q => wd.sep.ow a ((hm a).mp q)⟩
  refine ⟨v, f2, f1 ++ f3, q1, q3, ⟨by simpa using env, sep.app2, wd.dom⟩, sep, fun a q => (hm a).mp (List.mem_append_left _ q), fun a q => (hm a).mp (List.mem_append_right _ q), fun g sg => ?_⟩
  have perm2 : (g ++ (f1 ++ (f2 ++ f3))).Perm (g ++ (f2 ++ (f1 ++ f3))) := perm.append_left g
  exact ⟨perm2.nodup_iff.mp sg.nd, fun a q => sg.ns a (perm2.mem_iff.mpr q), fun a q => sg.ow a (perm2.mem_iff.mpr q)⟩
def rGetL : V → V → Hp → VK → Prop := fun o i H Q => ∃ p xs k w, o = .ref p ∧ i = .int k ∧ 0 ≤ k ∧ H p = some (.lst xs) ∧ xs[k.toNat]? = some w ∧ Q w H
theorem get_list {X : Cx} : PGet X rGetL := by
  intro pins s σ H o i ov iv Q I ro ri h
  obtain ⟨p, xs, k, w, rfl, rfl, h0, hp, hw, q⟩ := h
  cases ro
  obtain ⟨t, rfl⟩ := ri
  obtain ⟨its, n, r, ho, hz⟩ := I.lst hp
  have hl := r.length
  have hn := line63
  have hlt : k.toNat < xs.length := by
    rcases Nat.lt_or_ge k.toNat xs.length with z | z
    · exact z
    · rw [List.getElem?_eq_none z] at hw; cases hw
  obtain ⟨u, hu, ru⟩ := r.get hw
  refine wpAny_getItem_list (items := its.toArray) ⟨_, ho, rfl, n, rfl⟩ h0 (by omega) (by simpa using hu) ⟨w, H, I, ru, q⟩
section
variable {X : Cx} {W : WX} {a b c : Expr} {pos : Pos} {m n : M Vl}
theorem Sep.upd {S : SP'} {H : Hp} {fp : List Addr} {p : Addr} {ws : List V} (sp : Sep S H fp) : Sep S (upd H p (.lst ws)) fp :=
  ⟨sp.nd, sp.ns, fun c hc => by
    by_cases z : c = p
    · subst z; exact ⟨_, upd_same, trivial⟩
    · rw [upd_ne z]; exact sp.ow c hc⟩
theorem ds_augIx {B : List (Nat × Addr)} (k : Nat) {x : Str} {p tpos : Pos} {f : N} (hi : DN X a f) (hv : DE X W b m) (hN : X.N[k]? = some x := by rfl) (hvis : Vis X.env.scope x := by first | exact Or.inl rfl | exact Or.inr (Or.inl rfl) | exact Or.inr (Or.inr rfl)) (hd : (x == ("__debug__" : Str)) = false := by decide)
    (hcd : (x == ("__classdict__" : Str)) = false := by decide)
    (ha : ∀ ov iv new, augStore a ov iv new = (do holding [new, ov, iv] (setItem ov iv new); release [new, ov, iv] []; pure .next) := by intros; rfl) :
    DS X B W (.AugAssign (.Subscript (.Name x p) a tpos) .Add b pos) (sAugIx k f m) := by
  refine ⟨PSm (ps_augS (pe_var hN hvis hd hcd) hi.p get_list hv.p (fun pins s σ H x y v u Q => iop_ext pins s σ H x y v u Q) set_list ha) fun D σ H ⟨S, e, fp, wd, bo, h⟩ => ?_⟩
  unfold sAugIx at h
  split at h
  · rename_i l i he hf
    split at h
    · rename_i h0
      split at h
      · rename_i r hr
        obtain ⟨v, f2, fp', q1, q2, q3, q4, q5, q6, _⟩ := wd.take he
        have q2' := q2
        obtain ⟨a0, vs, as, e1, e2, e3, e4⟩ := q2
        subst e1 e2
        obtain ⟨b0, ws, g1, g2, g3, g4⟩ := e4.get hr
        have hbm : b0 ∈ a0 :: as := List.mem_cons_of_mem _ (List.mem_of_getElem? g1)
        have hab : a0 ≠ b0 := fun z => (List.nodup_cons.mp q4.app1.nd).1 (z ▸ List.mem_of_getElem? g1)
        refine ⟨.ref a0, q1, S, e, fp, wd, i, hf, a0, vs, i, .ref b0, rfl, rfl, h0, e3, g2, S, e.set k none, fp', q3, ?_⟩
        cases hm : m (e.set k none) with
        | bad => simp only [hm] at h; exact h.elim
        | ex x1 e1 =>
          simp only [hm] at h
          exact fun S' H' fp'' c dd a b d => h S' H' fp'' σ c dd (a.more q6) b bo d
        | ok y e2 =>
          simp only [hm] at h
          intro S' H' fp2 fx u x' wd' sp ry
          split at h
          · rename_i z e2' heq
            cases heq
            split at h
            · rename_i hz
              obtain ⟨b1, ws', k1, k2, k3, k4⟩ := ry
              subst k1 k2
              obtain ⟨s1, s2⟩ := q4.wait x'.drop wd'.sep
              have st := x'.drop.stb q3.sep
              have hb : H' b0 = some (.lst ws) := (s2 b0 hbm).trans g3
              have ha' : H' a0 = some (.lst vs) := (s2 a0 (by simp)).trans e3
              have hl1 := g4.length
              have hl2 := k4.length
              refine ⟨b0, b1, ws, ws', rfl, rfl, hb, k3, by rw [← hl1, ← hl2, ← lim_eq]; exact hz, ?_⟩
              have hix : Fx.ixN vs.length i = some i.toNat := by
                have hlt : i.toNat < vs.length := by
                  rcases Nat.lt_or_ge i.toNat vs.length with z | z
                  · exact z
                  · rw [List.getElem?_eq_none z] at g2; cases g2
                unfold Fx.ixN
                simp only [h0, if_true]
                first | exact if_pos hlt | exact if_pos (by omega) | simp [hlt]
              refine ⟨a0, vs, i, i.toNat, rfl, rfl, by rw [upd_ne hab]; exact ha', hix, ?_⟩
              have hvs : vs.set i.toNat (.ref b0) = vs := by
                refine List.ext_getElem? fun c => ?_
                rw [List.getElem?_set]
                split
                · rename_i z
                  subst z
                  rw [g2]
                  split
                  · rfl
                  · rename_i z; rw [List.getElem?_eq_none (by omega)] at g2; cases g2
                · rfl
              rw [hvs]
              have hu : upd (upd H' b0 (.lst (ws ++ ws'))) a0 (.lst vs) = upd H' b0 (.lst (ws ++ ws')) := by
                funext c
                by_cases z : c = a0
                · subst z; rw [upd_same, upd_ne hab]; exact ha'.symm
                · rw [upd_ne z]
              rw [hu]
              have sb : Sep S' H' ([b0] ++ fp2) := ⟨List.nodup_cons.mpr ⟨fun z => s1.apart hbm z, s1.app2.nd⟩, fun c hc => by
                rcases List.mem_append.mp hc with hc | hc
                · simp at hc; subst hc; exact s1.ns _ (List.mem_append_left _ hbm)
                · exact s1.app2.ns c hc, fun c hc => by
                rcases List.mem_append.mp hc with hc | hc
                · simp at hc; subst hc; exact s1.ow _ (List.mem_append_left _ hbm)
                · exact s1.app2.ow c hc⟩
              obtain ⟨wd3, st3, _⟩ := wd'.write (ws := ws ++ ws') sb hb
              have e4' : rows X.K S' H' l as vs := rows.stb st l as vs (fun c hc => s2 c (List.mem_cons_of_mem _ hc)) e4
              have k4' : reps X.K S' H' z ws' := k4
              have g4' : reps X.K S' H' r ws := reps.stb st r ws g4
              have rr := rows.set st3 e4' (List.nodup_cons.mp q4.app1.nd).2 g1 (fun c _ hc => upd_ne hc) upd_same (reps.stb st3 _ _ (g4'.app k4'))
              obtain ⟨fp4, wd4, sub4⟩ := wd3.put (fx := a0 :: as) (i := k) (x := .oo (l.set i.toNat (r ++ z))) (v := .ref a0) s1.upd ⟨a0, vs, as, rfl, rfl, by rw [upd_ne hab]; exact ha', rr⟩
              rw [set_same q1] at wd4
              have x2 := (x'.drop).more q6
              refine h S' _ fp4 σ ⟨fun c o hc hm => ?_, fun c hc => ?_, x2.mono, x2.sfr⟩ wd4 bo
              · rw [upd_ne (show c ≠ b0 from fun z => hm (by rw [z]; exact q5 b0 hbm))]
                exact x2.keep c o hc hm
              · rcases List.mem_append.mp (sub4 c hc) with hc | hc
                · exact .inl (q5 c hc)
                · exact x2.fresh c hc
            · exact h.elim
          · exact h.elim
          · rename_i heq; cases heq
          · rename_i heq; cases heq
      · exact h.elim
    · exact h.elim
  · exact h.elim
theorem rows.snoc {K : PySem.W.Frag} {S : SP'} {H : Hp} {b : Addr} {z : List D} {ws : List V} (hb : H b = some (.lst ws)) (hz : reps K S H z ws) : ∀ {ls : List (List D)} {as : List Addr} {vs : List V}, rows K S H ls as vs → rows K S H (ls ++ [z]) (as ++ [b]) (vs ++ [.ref b])
  | [], as, vs, h => by
    unfold rows at h
    obtain ⟨rfl, rfl⟩ := h
    simp only [List.nil_append]
    unfold rows
    exact ⟨b, [], ws, [], rfl, rfl, hb, hz, by unfold rows; exact ⟨rfl, rfl⟩⟩
  | l :: ls, as, vs, h => by
    unfold rows at h
    obtain ⟨b0, as, ws0, rs, h1, h2, h3, h4, h5⟩ := h
    subst h1 h2
    simp only [List.cons_append]
    unfold rows
    exact ⟨b0, _, ws0, _, rfl, rfl, h3, h4, rows.snoc hb hz h5⟩
theorem de_appO (k : Nat) {x : Str} {p apos : Pos} (ha : DE X W a m) (hN : X.N[k]? = some x := by rfl) (hv : Vis X.env.scope x := by first | exact Or.inl rfl | exact Or.inr (Or.inl rfl) | exact Or.inr (Or.inr rfl)) (hd : (x == ("__debug__" : Str)) = false := by decide)
    (hcd : (x == ("__classdict__" : Str)) = false := by decide) (he : starEach (a :: []) X.env = (false, eval a X.env) :: starEach [] X.env := by rfl) (hb : attributeBase (.Name x p) "append" X.env (eval (.Name x p) X.env) = eval (.Name x p) X.env := by rfl)
    (hfew : ((backTo pos (starEach (a :: []) X.env)).all (fun x => !x.1) && (backToKw pos (keywordEach [] X.env)).all (fun x => x.1.isSome) && decide (([a] : List Expr).length + ([] : List Keyword).length + (if ([] : List Keyword).isEmpty then 0 else 1) < 30)) = true := by rfl)
    (hline : (apos.endLine == pos.line) = true := by rfl) (hpl : (backTo pos (starEach [] X.env)).any (·.1) = false := by rfl) :
    DE X W (.Call (.Attribute (.Name x p) "append" apos) [a] [] pos) (mAppO k m) := by
  refine ⟨PEm (pe_bm PySem.F.plainAttrs_list PySem.F.slot_list_append PySem.F.type_list_append mt_append (pe_var hN hv hd hcd) (pa_cons ha.p pa_nil he) hb hfew hline he hpl) fun σ H Q h => ?_⟩
  obtain ⟨S, e, fp, wd, p⟩ := h
  unfold mAppO at p
  split at p
  · rename_i l0 he0
    obtain ⟨v0, f0, fq, h1, h2, _⟩ := wd.take he0
    obtain ⟨a0, vs0, as0, h3, h4, h5, h6⟩ := h2
    subst h3
    refine ⟨.ref a0, h1, list_ty h5, ?_⟩
    refine TR.bind (R' := repV X.K) (k := fun y e => (match y, e[k]? with
      | .o z, some (some (.oo l)) => if l.length < lim then .ok (.v .non) (e.set k (some (.oo (l ++ [z])))) else .bad
      | _, _ => .bad)) (Q := Q) ⟨S, e, fp, wd, p⟩ fun S0 e0 fp0 S1 H1 e1 fp1 fy y w wd0 ext wd1 sep1 ry p1 => ?_
    split at p1
    · rename_i z l hk
      split at p1
      · rename_i hz
        obtain ⟨b1, ws', k1, k2, k3, k4⟩ := ry
        subst k1 k2
        obtain ⟨v1, f2, fp', g1, g2, g3, g4, g5, g6, g7⟩ := wd1.take hk
        obtain ⟨a1, vs, as, e1', e2', e3', e4'⟩ := g2
        subst e1' e2'
        rw [h1] at g1
        cases g1
        have s7 := g7 [b1] sep1
        have perm : ([b1] ++ ((a0 :: as) ++ fp')).Perm ((a0 :: (as ++ [b1])) ++ fp') := by
          have h := (List.perm_append_comm (l₁ := [b1]) (l₂ := a0 :: as)).append_right fp'
          simpa using h
        have s8 : Sep S1 H1 ((a0 :: (as ++ [b1])) ++ fp') := ⟨perm.nodup_iff.mp s7.nd, fun c hc => s7.ns c (perm.mem_iff.mpr hc), fun c hc => s7.ow c (perm.mem_iff.mpr hc)⟩
        have hab : b1 ≠ a0 := fun q => by
          subst q
          have := s7.nd
          simp at this
        have sa : Sep S1 H1 ([a0] ++ fp') := ⟨List.nodup_cons.mpr ⟨fun q => g4.apart (by simp) q, g4.app2.nd⟩, fun c hc => g4.ns c (by
            rcases List.mem_append.mp hc with q | q
            · simp at q; subst q; simp
            · exact List.mem_append_right _ q), fun c hc => g4.ow c (by
            rcases List.mem_append.mp hc with q | q
            · simp at q; subst q; simp
            · exact List.mem_append_right _ q)⟩
        obtain ⟨wd3, st3, _⟩ := g3.write (ws := vs ++ [.ref b1]) sa e3'
        have hne : ∀ c ∈ as, c ≠ a0 := fun c hc q => by
          subst q
          exact (List.nodup_cons.mp g4.app1.nd).1 hc
        have r1 := rows.stb st3 l as vs (fun c hc => upd_ne (hne c hc)) e4'
        have r2 := rows.snoc (K := X.K) (S := S1) (H := upd H1 a0 (.lst (vs ++ [.ref b1]))) (b := b1) (z := z) (ws := ws') (by rw [upd_ne hab]; exact k3) (reps.stb st3 _ _ k4) r1
        obtain ⟨fp5, wd5, sub5⟩ := wd3.put (fx := a0 :: (as ++ [b1])) (i := k) (x := .oo (l ++ [z])) (v := .ref a0) s8.upd ⟨a0, vs ++ [.ref b1], as ++ [b1], rfl, rfl, upd_same, r2⟩
        rw [set_same h1, List.set_set] at wd5
        have hin : ∀ c, c ∈ a0 :: (as ++ [b1]) ++ fp' → c ∈ [b1] ++ fp1 := fun c hc => by
          rcases List.mem_append.mp (perm.mem_iff.mpr hc) with q | q
          · exact List.mem_append_left _ q
          · rcases List.mem_append.mp q with q | q
            · exact List.mem_append_right _ (g5 c q)
            · exact List.mem_append_right _ (g6 c q)
        refine ⟨a0, vs, .ref b1, rfl, rfl, e3', by rw [← e4'.length.1, ← lim_eq]; exact hz, p1 S1 _ fp5 [] _ ⟨fun c o hc hm => ?_, fun c hc => ext.fresh c (hin c (sub5 c (by simpa using hc))), ext.mono, ext.sfr⟩ wd5 (by simpa using wd5.sep) ⟨rfl, rep_non⟩⟩
        rw [upd_ne (fun q => by
          subst q
          rcases ext.fresh c (hin c (by simp)) with q | q
          · exact hm q
          · rw [q] at hc; cases hc)]
        exact ext.keep c o hc hm
      · exact p1.elim
    · exact p1.elim
  · exact p.elim
end
end Fx
end

section
set_option Elab.async false
set_option linter.all false
set_option maxRecDepth 100000
set_option maxHeartbeats 4000000
/-! Wrg: list(range(a, b)), tuple(range(..)). -/
namespace Fx
open PySem PySem.Spec PyProof.Rows L2
section
variable {X : Cx} {e : Expr} {te : L2.St → Hp → (Int → Int → Hp → Prop) → Prop}
def tTupRgF (te : L2.St → Hp → (Int → Int → Hp → Prop) → Prop) : TE := fun σ H Q => te σ H fun a b H1 => RgOk a b ∧ newT H1 Q (rgV a b)
theorem pe_tupRgF {p pos : Pos} (hc : X.calm = true) (hg : Gl X "tuple") (hm : X.mg "tuple" = none) (he : PRg X e te) (na : starEach [e] X.env = (false, eval e X.env) :: starEach [] X.env := by rfl) : PE X (.Call (.Name "tuple" p) [e] [] pos) (tTupRgF te) := by
  refine ⟨fun pins s σ H Q I h => ?_⟩
  refine Call_ (ld_blt I hg hm boot_tuple (PyProof.Rows.callWith_type1 (args_cons (thn (he pins s σ H _ I h) fun x s1 ⟨r, a, b, t, u, v, H1, ex, hr, I1, ok, q⟩ => args_nil ?_) na) na))
  subst ex
  obtain ⟨b1, b2, b3, b4, b5⟩ := ok
  refine call_tuple_range (n := (b - a).toNat) (I1.ok.hd hc) hr (small_one b1 b2 b3 b4) (rangeSize_nat a b) b5 fun h' tk acc hk hi => ?_
  have I2 : Inv X pins σ H1 { s1 with heap := h', toks := tk } := I1.kept hk
  have := q.fin (t' := tk) I2 (vals_rg hi) (by rw [rgV_length, sizeLine_eq]; omega)
  simpa [mkT, Array.toArray_toList] using this
end
section
variable {X : Cx} {W : WX} {a b c : Expr} {pos : Pos} {m n : M Vl}
theorem de_lr2 {p p2 p3 pos2 : Pos} (hc : X.calm = true) (ha : DE X W a m) (hb : DE X W b n) (hml : X.mg "list" = none) (hmr : X.mg "range" = none) (hgl : Gl X "list" := by rfl) (hgr : Gl X "range" := by rfl) (na : starEach [a, b] X.env = (false, eval a X.env) :: starEach [b] X.env := by rfl) (nb1 : starEach [b] X.env = (false, eval b X.env) :: starEach [] X.env := by rfl) (hp : (backTo p3 (starEach [b] X.env)).any (·.1) = false := by rfl)
    (nb : starEach [.Call (.Name "range" p) [a, b] [] p3] X.env = (false, eval (.Call (.Name "range" p) [a, b] [] p3) X.env) :: starEach [] X.env := by rfl) : DE X W (.Call (.Name "list" p2) [.Call (.Name "range" p) [a, b] [] p3] [] pos2) (eLr2 m n) := by
  refine ⟨PEm (pe_listRg hc hgl hml (prg_2 hgr hmr ha.p hb.p na nb1 hp) nb) fun σ H Q h => ?_⟩
  refine TR.bind (R' := repV X.K) (k := fun x e => (n e).then fun y e => kLr2 x y e) (Q := Q) h fun S e fp S1 H1 e1 fp1 fx x v wd ext wd1 sep1 rx p => ?_
  refine TR.next (R' := repV X.K) (k := fun y e => kLr2 x y e) wd1 ext sep1 p fun S2 H2 e2 fp2 fy y u ext2 st keep wd2 sep2 ry p2 => ?_
  have rx2 : repV X.K S2 H2 x fx v := rx.stb st keep
  unfold kLr2 at p2
  split at p2
  · rename_i i j
    split at p2
    · rename_i hj
      have hx := rep_v rx2
      have hy := rep_v ry
      unfold rep at hx hy
      unfold rgOk lim at hj
      simp only [Bool.and_eq_true, decide_eq_true_eq] at hj
      obtain ⟨⟨h12, h34⟩, h5⟩ := hj
      obtain ⟨h1, h2⟩ := small_of h12
      obtain ⟨h3, h4⟩ := small_of h34
      have hr := rg_reps (K := X.K) (S := S2) (H := H2) i (j - i).toNat
      have e0 : rgV i j = (List.range (j - i).toNat).map fun z => V.int (i + (z : Nat)) := rfl
      have ext' : Ext S H fp S2 H2 fp2 := ext2.drop.drop
      refine ⟨i, j, hx, hy, ⟨by omega, by omega, by omega, by omega, by omega⟩, fun q hq => ?_⟩
      rw [e0]
      obtain ⟨k, fr, sp, rt⟩ := fresh_lst hr hq wd2.dom
      exact p2 S2 _ fp2 [q] _ (ext'.grow k fr) (wd2.grow k) (wd2.sep.grow sp k fr) rt
    · exact p2.elim
  · exact p2.elim
theorem de_tr1 {p p2 p3 pos2 : Pos} (hc : X.calm = true) (ha : DE X W a m) (hml : X.mg "tuple" = none) (hmr : X.mg "range" = none) (hgl : Gl X "tuple" := by rfl) (hgr : Gl X "range" := by rfl) (na : starEach [a] X.env = (false, eval a X.env) :: starEach [] X.env := by rfl)
    (nb : starEach [.Call (.Name "range" p) [a] [] p3] X.env = (false, eval (.Call (.Name "range" p) [a] [] p3) X.env) :: starEach [] X.env := by rfl) : DE X W (.Call (.Name "tuple" p2) [.Call (.Name "range" p) [a] [] p3] [] pos2) (eTr1 m) := by
  refine ⟨PEm (pe_tupRgF hc hgl hml (prg_1 hgr hmr ha.p na) nb) fun σ H Q h => ?_⟩
  refine TR.bind (R' := repV X.K) (k := kTr1) (Q := Q) h fun S e fp S1 H1 e1 fp1 fx x v wd ext wd1 sep1 rx p => ?_
  unfold kTr1 at p
  split at p
  · rename_i j
    split at p
    · rename_i hj
      have hx := rep_v rx
      unfold rep at hx
      unfold rgOk lim at hj
      simp only [Bool.and_eq_true, decide_eq_true_eq] at hj
      obtain ⟨⟨h12, h34⟩, h5⟩ := hj
      obtain ⟨h1, h2⟩ := small_of h12
      obtain ⟨h3, h4⟩ := small_of h34
      refine ⟨j, hx, ⟨by omega, by omega, by omega, by omega, by omega⟩, fun q ob hq ho => ?_⟩
      have hr := rg_reps (K := X.K) (S := S1) (H := H1) 0 j.toNat
      have e0 : rgV 0 j = (List.range j.toNat).map fun i => V.int (0 + (i : Nat)) := by unfold rgV; rw [show (j - 0).toNat = j.toNat by omega]
      rw [e0]
      obtain ⟨k, rt⟩ := fresh_tup hr hq ho
      exact p S1 _ fp1 [] _ (ext.drop.grow k (fun a q => absurd q (by simp))) (wd1.grow k) (wd1.grow k).sep ⟨rfl, rt⟩
    · exact p.elim
  · exact p.elim
theorem de_tr2 {p p2 p3 pos2 : Pos} (hc : X.calm = true) (ha : DE X W a m) (hb : DE X W b n) (hml : X.mg "tuple" = none) (hmr : X.mg "range" = none) (hgl : Gl X "tuple" := by rfl) (hgr : Gl X "range" := by rfl) (na : starEach [a, b] X.env = (false, eval a X.env) :: starEach [b] X.env := by rfl) (nb1 : starEach [b] X.env = (false, eval b X.env) :: starEach [] X.env := by rfl) (hp : (backTo p3 (starEach [b] X.env)).any (·.1) = false := by rfl)
    (nb : starEach [.Call (.Name "range" p) [a, b] [] p3] X.env = (false, eval (.Call (.Name "range" p) [a, b] [] p3) X.env) :: starEach [] X.env := by rfl) : DE X W (.Call (.Name "tuple" p2) [.Call (.Name "range" p) [a, b] [] p3] [] pos2) (eTr2 m n) := by
  refine ⟨PEm (pe_tupRgF hc hgl hml (prg_2 hgr hmr ha.p hb.p na nb1 hp) nb) fun σ H Q h => ?_⟩
  refine TR.bind (R' := repV X.K) (k := fun x e => (n e).then fun y e => kTr2 x y e) (Q := Q) h fun S e fp S1 H1 e1 fp1 fx x v wd ext wd1 sep1 rx p => ?_
  refine TR.next (R' := repV X.K) (k := fun y e => kTr2 x y e) wd1 ext sep1 p fun S2 H2 e2 fp2 fy y u ext2 st keep wd2 sep2 ry p2 => ?_
  have rx2 : repV X.K S2 H2 x fx v := rx.stb st keep
  unfold kTr2 at p2
  split at p2
  · rename_i i j
    split at p2
    · rename_i hj
      have hx := rep_v rx2
      have hy := rep_v ry
      unfold rep at hx hy
      unfold rgOk lim at hj
      simp only [Bool.and_eq_true, decide_eq_true_eq] at hj
      obtain ⟨⟨h12, h34⟩, h5⟩ := hj
      obtain ⟨h1, h2⟩ := small_of h12
      obtain ⟨h3, h4⟩ := small_of h34
      have hr := rg_reps (K := X.K) (S := S2) (H := H2) i (j - i).toNat
      have e0 : rgV i j = (List.range (j - i).toNat).map fun z => V.int (i + (z : Nat)) := rfl
      have ext' : Ext S H fp S2 H2 fp2 := ext2.drop.drop
      refine ⟨i, j, hx, hy, ⟨by omega, by omega, by omega, by omega, by omega⟩, fun q ob hq ho => ?_⟩
      rw [e0]
      obtain ⟨k, rt⟩ := fresh_tup hr hq ho
      exact p2 S2 _ fp2 [] _ (ext'.grow k (fun a q => absurd q (by simp))) (wd2.grow k) (wd2.grow k).sep ⟨rfl, rt⟩
    · exact p2.elim
  · exact p2.elim
end
end Fx
end

section
set_option Elab.async false
set_option linter.all false
set_option maxRecDepth 100000
set_option maxHeartbeats 4000000
/-! Wse: sorted of rows of whole numbers of which the first is empty. -/
namespace Fx
open PySem PySem.Spec PyProof.Rows L2 PySem.W PySem.Calls PySem.SeqAt
section
variable {A : Around} {s : Shared}
theorem call_tuple_lt {prog : Program} {w : World} {E : Value → Shared → Prop} {Q : Value → Shared → Prop} {l b : Addr} {items items2 : Array Value} {e r : Nat → Bool} (hl : s.heap.IsTuple l items) (hb : s.heap.IsTuple b items2)
    (he : ∀ j (h1 : j < items.size) (h2 : j < items2.size), EqAt A.in1 s items[j] items2[j] (e j)) (hr : ∀ j (h1 : j < items.size) (h2 : j < items2.size), e j = false → RcLt A.in1 s items[j] items2[j] (r j))
    (h : Q (.bool (firstLt e r (decide (items.size < items2.size)) (List.range (min items.size items2.size)))) s) : wpAny (model prog w) A (call (.builtin "tuple.__lt__") [.ref l, .ref b]) Q E s := by
  obtain ⟨⟨cls, dd, data, sl⟩, ho, hc, n, hd⟩ := id hl
  obtain ⟨⟨cls2, dd2, data2, sl2⟩, ho2, hc2, n2, hd2⟩ := id hb
  simp only at hc hd hc2 hd2
  subst hc hd hc2 hd2
  exact call_meets F.slot_tuple_lt ⟨_, ho, rfl⟩ F.entry_tuple_lt (F.args_tuple_lt_2 _ _) (tuple_ltAt l b items items2 n n2 dd dd2 sl sl2 e r) ⟨ho, ho2, he, hr, h⟩
variable {prog : Program} {w : World} {E : Value → Shared → Prop}
theorem oneLt_tups {xs ys : List PyData} {a b : Value} {as bs : List Addr} {Q : Bool → Shared → Prop} (ra : Reads s.heap a (.tuple xs) as) (rb : Reads s.heap b (.tuple ys) bs) (hal : alikeAll xs ys = true)
    (hu : A.units + min (PyData.tuple xs).depth (PyData.tuple ys).depth < cLine) (hq : Q (dataLt (.tuple xs) (.tuple ys)) s) : wpAny (model prog w) A (oneLt' true a b) Q E s := by
  cases ra with
  | @tuple l o vs n _ as₁ h1 h2 h3 h4 =>
    cases rb with
    | @tuple l' o' vs' n' _ bs₁ k1 k2 k3 k4 =>
      have n1 : vs.size = xs.length := by simpa using ReadsAll.length _ _ _ h4
      have n2 : vs'.size = ys.length := by simpa using ReadsAll.length _ _ _ k4
      rw [dataLt_tuple, ← firstLt_toks xs ys hal, ← n1, ← n2] at hq
      rw [oneLt'_eq]
      simp only [if_true]
      refine wpAny_bind (wpAny_cRoomFor (room_here hu) ?_)
      refine wpAny_bind (wpAny_callSpecialIfBound?_slot (T := "tuple") ⟨_, h1, h2⟩ F.slot_tuple_lt (call_tuple_lt (e := pairEq xs ys) (r := fun j => dataLt (xs.getD j .none) (ys.getD j .none)) ⟨_, h1, h2, _, h3⟩ ⟨_, k1, k2, _, k3⟩ (fun j j1 j2 => ?_) (fun j j1 j2 hj => ?_) ?_))
      · have := eqAt_alikeAll xs ys A.in1 s vs.toList vs'.toList _ _ h4 k4 hal (room_in hu) j (by simpa using j1) (by simpa using j2)
        simpa using this
      · have := rcLt_alikeAll xs ys A.in1 s vs.toList vs'.toList _ _ h4 k4 hal (room_in hu) j (by simpa using j1) (by simpa using j2) hj
        simpa using this
      · exact wpAny_truthy_bool hq
end
section
variable {M : Model} {A : Around} {E : Value → Shared → Prop} {s : Shared}
/-- tuples of the heap -/
def TupAt (h : Heap) (v : Value) (xs : Array Value) : Prop := ∃ a o n, v = .ref a ∧ h.get? a = some o ∧ o.cls = .type "tuple" ∧ o.data = .seq xs n
theorem firstsE : ∀ (vs : List Value) {Q : List (Option Value) → Shared → Prop}, (∀ v ∈ vs, ∃ xs, TupAt s.heap v xs) → (∀ fs : List (Option Value), fs.length = vs.length → (∀ v r, vs = v :: r → TupAt s.heap v #[] → ∃ t, fs = none :: t) → Q fs s) → wpAny M A (vs.mapM firstOfTuple') Q E s
  | [], _, _, h => by rw [List.mapM_nil]; exact wpAny_pure (h [] rfl fun v r q => by cases q)
  | v :: vs, Q, t, h => by
    obtain ⟨xs, a, o, n, rfl, ho, hc, hd⟩ := t v (List.mem_cons_self ..)
    rw [List.mapM_cons]
    refine wpAny_bind ?_
    rw [kas_first_eq]
    refine wpAny_bind (Looks.here (show Looks M s.heap (typeOf (.ref a)) o.cls from (Looks.ld ho).andThen .now) ?_)
    rw [hc, if_neg (by first | decide | simp)]
    refine wpAny_bind (listItems_at ho hd (wpAny_pure ?_))
    refine wpAny_bind (firstsE vs (Q := fun bs s' => wpAny M A (pure (xs[0]? :: bs)) Q E s') (fun u hu => t u (List.mem_cons_of_mem _ hu)) fun fs hl _ => wpAny_pure (h _ (by simp [hl]) fun v' r' q z => ?_))
    cases q
    obtain ⟨a', o', n', e', ho', hc', hd'⟩ := z
    cases e'
    rw [ho] at ho'
    cases ho'
    rw [hd] at hd'
    cases hd'
    exact ⟨fs, by simp⟩
theorem kindE {v : Value} {vs : List Value} {Q : SortKind → Shared → Prop} (t : ∀ u ∈ v :: vs, ∃ xs, TupAt s.heap u xs) (h0 : TupAt s.heap v #[]) (h : Q oneType' s) : wpAny M A (keyKind' (v :: vs).toArray) Q E s := by
  rw [keyKind'_eq, List.mapM_toArray, map_eq_pure_bind]
  refine wpAny_bind (wpAny_bind (firstsE (v :: vs) t fun fs hl hf => wpAny_pure ?_))
  obtain ⟨r, rfl⟩ := hf v vs rfl h0
  rw [if_neg (by simp), if_neg (by simp)]
  rw [oneTypeOnly'_eq, List.mapM_toArray, map_eq_pure_bind]
  refine wpAny_bind (wpAny_bind (wpAny_bind (kas_mapM (r := Value.type "tuple") _ (fun u hu Q' hq => ?_) (wpAny_pure ?_))))
  · obtain ⟨xs, a, o, n, rfl, ho, hc, hd⟩ := t u hu
    have := Looks.here (M := M) (A := A) (E := E) (show Looks M s.heap (typeOf (.ref a)) o.cls from (Looks.ld ho).andThen .now) (Q := Q')
    rw [hc] at this
    exact this hq
  have hall : ((List.map (fun _ => Value.type "tuple") (v :: vs)).toArray.all fun x => x == Value.type "tuple") = true := by
    simp only [List.all_toArray, List.all_map, List.all_eq_true]
    intro _ _
    exact beq_self_eq_true _
  have h0 : (List.map (fun _ => Value.type "tuple") (v :: vs)).toArray[0]? = some (Value.type "tuple") := by simp
  rw [h0]
  simp only [hall, if_true]
  exact wpAny_pure (wpAny_pure h)
end
section
variable {prog : Program} {w : World} {A : Around} {s : Shared}
theorem reads_tup {h : Heap} {v : Value} {xs : List PyData} {as : List Addr} (r : Reads h v (.tuple xs) as) : ∃ vs, TupAt h v vs ∧ vs.size = xs.length := by
  cases r with
  | @tuple l o vs n _ _ h1 h2 h3 h4 => exact ⟨vs, ⟨l, o, n, rfl, h1, h2, h3⟩, by simpa using SeqAt.ReadsAll.length _ _ _ h4⟩
theorem sortsAtE {vs : List Value} {ds : List PyData} (e : EachIs (fun v d => ∃ as, Reads s.heap v d as) vs (.tuple [] :: ds)) (hal : AllAlike (.tuple [] :: ds)) (ht : ∀ d ∈ ds, ∃ xs, d = .tuple xs)
    (hu : ∀ d, d ∈ (.tuple [] :: ds) → A.units + d.depth < cLine) : SortsAt prog w A s (dataKind s.heap (.tuple [] :: ds)) vs := by
  have ht' : ∀ d ∈ (PyData.tuple [] :: ds), ∃ xs, d = .tuple xs := fun d hd => by
    rcases List.mem_cons.mp hd with rfl | hd
    · exact ⟨_, rfl⟩
    · exact ht d hd
  refine ⟨fun v hv => ?_, oneType', ?_, fun h2 E Q hq => ?_⟩
  · obtain ⟨d, hd, as, r⟩ := e.left v hv
    exact ⟨_, dataKind_some hal hd r⟩
  · intro E x y a b Q ha hb hq
    obtain ⟨d, as, hd, ra, rfl⟩ := dataKind_inv ha
    obtain ⟨d', as', hd', rb, rfl⟩ := dataKind_inv hb
    rw [keyLt'_oneType]
    have hdd := hal d hd d' hd'
    have room : A.units + min d.depth d'.depth < cLine := Nat.lt_of_le_of_lt (Nat.add_le_add_left (Nat.min_le_left _ _) _) (hu d hd)
    obtain ⟨xs, rfl⟩ := ht' d hd
    obtain ⟨ys, rfl⟩ := ht' d' hd'
    exact oneLt_tups ra rb (by simpa [alike] using hdd) room hq
  · cases e with
    | @cons v _ vs' _ h1 h3 =>
      refine kindE (fun u hu => ?_) ?_ hq
      · rcases List.mem_cons.mp hu with rfl | hu
        · obtain ⟨as, r⟩ := h1
          obtain ⟨xs, t, _⟩ := reads_tup r
          exact ⟨xs, t⟩
        · obtain ⟨d, hd, as, r⟩ := h3.left u hu
          obtain ⟨xs, rfl⟩ := ht d hd
          obtain ⟨vs, t, _⟩ := reads_tup r
          exact ⟨vs, t⟩
      · obtain ⟨as, r⟩ := h1
        obtain ⟨xs, t, hs⟩ := reads_tup r
        have : xs = #[] := Array.eq_empty_of_size_eq_zero (by simpa using hs)
        rw [← this]; exact t
end
end Fx
end

section
/-! Dat2: order of data (whole numbers and tuples), sorted rows of which the first is empty, chains of three, range that goes down. -/
namespace Fx
mutual
def D.alk : D → D → Bool
  | .int _, .int _ => true
  | .tup a, .tup b => D.alks a b
  | _, _ => false
def D.alks : List D → List D → Bool
  | x :: xs, y :: ys => D.alk x y && D.alks xs ys
  | [], _ => true
  | _ :: _, [] => true
end
mutual
def D.ltb : D → D → Bool
  | .int i, .int j => decide (i < j)
  | .tup a, .tup b => D.ltbs a b
  | _, _ => false
def D.ltbs : List D → List D → Bool
  | [], [] => false
  | [], _ :: _ => true
  | _ :: _, [] => false
  | x :: xs, y :: ys => if D.eq x y then D.ltbs xs ys else D.ltb x y
end
/-- a < b of data -/
def oLtD (x y : Vl) : Option Vl := match x.d, y.d with
  | some a, some b => if D.alk a b = true ∧ min a.dep b.dep ≤ 64 then some (.v (.bl (D.ltb a b))) else none
  | _, _ => none
def D.mnb (x : D) (l : List D) : D := l.foldl (fun a y => if D.ltb y a then y else a) x
/-- min of a list of data -/
def oMinD (x : Vl) : Option Vl := match x.items with
  | some (d :: l) => if ((d :: l).all fun a => (d :: l).all fun b => D.alk a b) = true ∧ D.deps (d :: l) ≤ 64 then some (.v (D.mnb d l)) else none
  | _ => none
def D.rowsE : List D → Option (List (List Int))
  | [] => some []
  | .tup r :: l => match D.ints r, D.rowsE l with
    | some ns, some rs => some (ns :: rs)
    | _, _ => none
  | _ :: _ => none
def sortE (l : List D) : Option Vl := match D.rowsE l with
  | some ([] :: rs) => some (.o ((([] :: rs).mergeSort fun a b => decide (a ≤ b)).map tiD))
  | _ => none
/-- sorted of a list of rows of whole numbers, the first empty -/
def oSortE : Vl → Option Vl
  | .o l => sortE l
  | .v (.lst l) => sortE l
  | _ => none
/-- a op1 b op2 c op3 d -/
def eChain3 (f g h : Vl → Vl → Option Vl) (a b c d : M Vl) : M Vl := fun e => (a e).then fun x e => (b e).then fun y e => match y, f x y with
  | .v _, some (.v (.bl true)) => (c e).then fun z e => (match z, g y z with
    | .v _, some (.v (.bl true)) => (d e).then fun u e => lift (h z u) e
    | .v _, some (.v (.bl false)) => .ok (.v (.bl false)) e
    | _, _ => .bad)
  | .v _, some (.v (.bl false)) => .ok (.v (.bl false)) e
  | _, _ => .bad
/-- what range(i, j, -1) gives -/
def rngD (i : Int) (n : Nat) : List D := (List.range n).map fun t => D.int (i - (t : Nat))
/-- range(a, b, -1) is walked -/
def iR3 (a b : M Vl) : M (List D) := fun e => (a e).then fun x e => (b e).then fun y e => match x, y with
  | .v (.int i), .v (.int j) => if smallI i && smallI j then .ok (rngD i (i - j).toNat) e else .bad
  | _, _ => .bad
/-- a comprehension that walks a list of one's own (at place k), which stays one's own -/
def eCompW (vs : List Nat) (k : Nat) (g : D → En → Option En) (t : M Bool) (x : M Vl) : M Vl := fun e => match e[k]? with
  | some (some (.o l)) => if l.length ≤ lim then (match compGo vs g t x l [] (hide (e.set k none) vs) with
    | .ok acc e2 => .ok (.o acc) ((unhide (e.set k none) e2 vs).set k (some (.o l)))
    | _ => .bad) else .bad
  | _ => .bad
end Fx
end

section
set_option Elab.async false
set_option linter.all false
set_option maxRecDepth 100000
set_option maxHeartbeats 4000000
/-! Wlt: order of data: <, min of a list. -/
namespace Fx
open PySem PySem.Spec PyProof.Rows L2 PySem.W PySem.Calls
mutual
theorem py_alk : ∀ a b : D, D.alk a b = true → alike a.py b.py = true
  | .int _, .int _, _ => rfl
  | .tup a, .tup b, h => by simp only [D.alk] at h; simp only [D.py, alike]; exact pys_alk a b h
  | .non, _, h => by simp [D.alk] at h
  | .bl _, _, h => by simp [D.alk] at h
  | .str _, _, h => by simp [D.alk] at h
  | .lst _, _, h => by simp [D.alk] at h
  | .int _, .non, h => by simp [D.alk] at h
  | .int _, .bl _, h => by simp [D.alk] at h
  | .int _, .str _, h => by simp [D.alk] at h
  | .int _, .tup _, h => by simp [D.alk] at h
  | .int _, .lst _, h => by simp [D.alk] at h
  | .tup _, .non, h => by simp [D.alk] at h
  | .tup _, .bl _, h => by simp [D.alk] at h
  | .tup _, .int _, h => by simp [D.alk] at h
  | .tup _, .str _, h => by simp [D.alk] at h
  | .tup _, .lst _, h => by simp [D.alk] at h
theorem pys_alk : ∀ a b : List D, D.alks a b = true → alikeAll (D.pys a) (D.pys b) = true
  | [], _, _ => by simp only [D.pys, alikeAll]
  | _ :: _, [], _ => by simp only [D.pys, alikeAll]
  | x :: xs, y :: ys, h => by
    simp only [D.alks, Bool.and_eq_true] at h
    simp only [D.pys, alikeAll, Bool.and_eq_true]
    exact ⟨py_alk x y h.1, pys_alk xs ys h.2⟩
end
theorem alk_non {a b : D} (h : D.alk a b = true) : a.py ≠ .none := by
  cases a <;> simp [D.alk, D.py] at h ⊢
theorem toks_nil_nil : PyProof.Rows.lexLt itemOrd (keyToksAll []) (keyToksAll []) = false := PyProof.Rows.lex_irrefl _
theorem toks_nil_cons (y : PyData) (ys : List PyData) : PyProof.Rows.lexLt itemOrd (keyToksAll []) (keyToksAll (y :: ys)) = true := by
  rw [toks_all_cons, keyToksAll, PyProof.Rows.lex_diff (by decide)]
  rfl
theorem toks_cons_nil (y : PyData) (ys : List PyData) : PyProof.Rows.lexLt itemOrd (keyToksAll (y :: ys)) (keyToksAll []) = false := by
  rw [toks_all_cons, keyToksAll, PyProof.Rows.lex_diff (by decide)]
  rfl
mutual
theorem py_ltb : ∀ a b : D, D.alk a b = true → dataLt a.py b.py = D.ltb a b
  | .int i, .int j, _ => dataLt_int i j
  | .tup a, .tup b, h => by
    simp only [D.alk] at h
    simp only [D.py, D.ltb]
    rw [dataLt_tuple]
    exact pys_ltb a b h
  | .non, _, h => by simp [D.alk] at h
  | .bl _, _, h => by simp [D.alk] at h
  | .str _, _, h => by simp [D.alk] at h
  | .lst _, _, h => by simp [D.alk] at h
  | .int _, .non, h => by simp [D.alk] at h
  | .int _, .bl _, h => by simp [D.alk] at h
  | .int _, .str _, h => by simp [D.alk] at h
  | .int _, .tup _, h => by simp [D.alk] at h
  | .int _, .lst _, h => by simp [D.alk] at h
  | .tup _, .non, h => by simp [D.alk] at h
  | .tup _, .bl _, h => by simp [D.alk] at h
  | .tup _, .int _, h => by simp [D.alk] at h
  | .tup _, .str _, h => by simp [D.alk] at h
  | .tup _, .lst _, h => by simp [D.alk] at h
theorem pys_ltb : ∀ a b : List D, D.alks a b = true → PyProof.Rows.lexLt itemOrd (keyToksAll (D.pys a)) (keyToksAll (D.pys b)) = D.ltbs a b
  | [], [], _ => by simp only [D.pys, D.ltbs]; exact toks_nil_nil
  | [], _ :: _, _ => by simp only [D.pys, D.ltbs]; exact toks_nil_cons _ _
  | _ :: _, [], _ => by simp only [D.pys, D.ltbs]; exact toks_cons_nil _ _
  | x :: xs, y :: ys, h => by
    simp only [D.alks, Bool.and_eq_true] at h
    simp only [D.pys, D.ltbs]
    rw [dataLt_cons (py_alk x y h.1), py_eq, pys_ltb xs ys h.2, py_ltb x y h.1]
end
mutual
theorem py_inj : ∀ a b : D, D.alk a b = true → a.py = b.py → a = b
  | .int i, .int j, _, e => by simpa [D.py] using e
  | .tup a, .tup b, h, e => by
    simp only [D.alk] at h
    simp only [D.py, PyData.tuple.injEq] at e
    rw [pys_inj a b h e]
  | .non, _, h, _ => by simp [D.alk] at h
  | .bl _, _, h, _ => by simp [D.alk] at h
  | .str _, _, h, _ => by simp [D.alk] at h
  | .lst _, _, h, _ => by simp [D.alk] at h
  | .int _, .non, h, _ => by simp [D.alk] at h
  | .int _, .bl _, h, _ => by simp [D.alk] at h
  | .int _, .str _, h, _ => by simp [D.alk] at h
  | .int _, .tup _, h, _ => by simp [D.alk] at h
  | .int _, .lst _, h, _ => by simp [D.alk] at h
  | .tup _, .non, h, _ => by simp [D.alk] at h
  | .tup _, .bl _, h, _ => by simp [D.alk] at h
  | .tup _, .int _, h, _ => by simp [D.alk] at h
  | .tup _, .str _, h, _ => by simp [D.alk] at h
  | .tup _, .lst _, h, _ => by simp [D.alk] at h
theorem pys_inj : ∀ a b : List D, D.alks a b = true → D.pys a = D.pys b → a = b
  | [], [], _, _ => rfl
  | [], _ :: _, _, e => by simp [D.pys] at e
  | _ :: _, [], _, e => by simp [D.pys] at e
  | x :: xs, y :: ys, h, e => by
    simp only [D.alks, Bool.and_eq_true] at h
    simp only [D.pys, List.cons.injEq] at e
    rw [py_inj x y h.1 e.1, pys_inj xs ys h.2 e.2]
end
/-! ### a < b -/
section
variable {X : Cx}
def rLtD (K : PySem.W.Frag) : R2 := fun x y H Q => ∃ d e : D, Dp K H x d.py ∧ Dp K H y e.py ∧ D.alk d e = true ∧ min d.dep e.dep ≤ 64 ∧ Q (.bl (D.ltb d e)) H
theorem opLtD (hu : X.A.units + 66 < cLine) : OpR X (compareOp .Lt) (rLtD X.K) := by
  intro pins s σ H x y v u Q I rx ry h
  obtain ⟨d, e, hd, he, hk, hm, q⟩ := h
  obtain ⟨as, r1⟩ := Dp.reads I _ x v hd rx
  obtain ⟨bs, r2⟩ := Dp.reads I _ y u he ry
  exact lt_data r1 r2 (py_alk d e hk) (alk_non hk) (by rw [py_dep, py_dep]; omega) ⟨.bl _, H, I, by rw [py_ltb d e hk]; rfl, q⟩
theorem ok_ltD {K : PySem.W.Frag} : Op2 K (RP K) (RP K) oLtD (rLtD K) := by
  intro S H x y z fx fy u v Q e dom sep rx ry h
  unfold oLtD at e
  cases ex : x.d with
  | none => simp [ex] at e
  | some d =>
    cases ey : y.d with
    | none => simp [ex, ey] at e
    | some d' =>
      simp only [ex, ey] at e
      by_cases hm : D.alk d d' = true ∧ min d.dep d'.dep ≤ 64
      · rw [if_pos hm] at e
        cases e
        exact ⟨d, d', rx.dp ex, ry.dp ey, hm.1, hm.2, pure_end (rep_bl _) h⟩
      · rw [if_neg hm] at e; cases e
end
/-! ### min of a list of data -/
def minF (l : List D) : Option D := match l with
  | d :: l => if ((d :: l).all fun a => (d :: l).all fun b => D.alk a b) = true ∧ D.deps (d :: l) ≤ 64 then some (D.mnb d l) else none
  | [] => none
theorem oMinD_eq (x : Vl) : oMinD x = (x.items.bind minF).map .v := by
  unfold oMinD minF
  cases x.items with
  | none => rfl
  | some l =>
    cases l with
    | nil => rfl
    | cons d l =>
      simp only [Option.bind_some]
      split <;> rfl
theorem pys_map : ∀ l : List D, D.pys l = l.map D.py
  | [] => rfl
  | d :: l => by simp only [D.pys, List.map_cons, pys_map l]
theorem mnb_mem : ∀ (l : List D) (x : D), D.mnb x l ∈ x :: l
  | [], x => by simp [D.mnb]
  | y :: l, x => by
    have h := mnb_mem l (if D.ltb y x then y else x)
    unfold D.mnb at h ⊢
    rw [List.foldl_cons]
    rcases List.mem_cons.mp h with q | q
    · rw [q]
      split <;> simp
    · exact List.mem_cons_of_mem _ (List.mem_cons_of_mem _ q)
theorem mnb_py : ∀ (l : List D) (x : D), (∀ a ∈ x :: l, ∀ b ∈ x :: l, D.alk a b = true) → (D.mnb x l).py = minD x.py (l.map D.py)
  | [], x, _ => rfl
  | y :: l, x, h => by
    have e := py_ltb y x (h y (by simp) x (by simp))
    unfold minD D.mnb
    rw [List.map_cons, List.foldl_cons, List.foldl_cons, e]
    have h2 := mnb_py l (if D.ltb y x then y else x) (fun a ha b hb => by
      have m : ∀ c ∈ (if D.ltb y x = true then y else x) :: l, c ∈ x :: y :: l := fun c hc => by
        rcases List.mem_cons.mp hc with q | q
        · rw [q]; split <;> simp
        · simp [q]
      exact h a (m a ha) b (m b hb))
    unfold minD D.mnb at h2
    rw [h2]
    congr 1
    split <;> rfl
theorem alike_pys {l : List D} (h : ∀ a ∈ l, ∀ b ∈ l, D.alk a b = true) : PySem.W.AlikeAll (D.pys l) := by
  rw [pys_map]
  refine ⟨fun x hx y hy => ?_, fun x hx => ?_⟩
  · obtain ⟨a, ha, rfl⟩ := List.mem_map.mp hx
    obtain ⟨b, hb, rfl⟩ := List.mem_map.mp hy
    exact py_alk a b (h a ha b hb)
  · obtain ⟨a, ha, rfl⟩ := List.mem_map.mp hx
    exact alk_non (h a ha a ha)
theorem rep_at {K : PySem.W.Frag} {S : SP'} {H : Hp} : ∀ {l : List D} {vs : List V} {its : List Value} {i : Nat} {v : Value}, reps K S H l vs → Vals vs its → its[i]? = some v → ∃ d x, d ∈ l ∧ l[i]? = some d ∧ rep K S H d x ∧ RelV x v ∧ vs[i]? = some x := by
  intro l vs its i v hr hv hi
  have hl := hr.length
  have hl2 := Vals.length hv
  have hil : i < its.length := (List.getElem?_eq_some_iff.mp hi).1
  have e1 : l[i]? = some (l[i]'(by omega)) := List.getElem?_eq_getElem _
  obtain ⟨x, hx, rx⟩ := hr.get e1
  refine ⟨l[i]'(by omega), x, List.getElem_mem _, e1, rx, ?_, hx⟩
  have key : ∀ {vs : List V} {its : List Value} {i : Nat} {x : V} {v : Value}, Vals vs its → vs[i]? = some x → its[i]? = some v → RelV x v := by
    intro vs its i x v h
    induction h generalizing i with
    | nil => intro e; simp at e
    | cons r t ih =>
      intro e1 e2
      cases i with
      | zero => simp at e1 e2; subst e1; subst e2; exact r
      | succ i => simp at e1 e2; exact ih e1 e2
  exact key hv hx hi
section
variable {X : Cx} {W : WX} {a : Expr} {pos : Pos} {m : M Vl}
theorem call_minD (hc : X.calm = true) (hu : X.A.units + 66 < cLine) : CallR X (.builtin "min") (rIt X.K minF) := by
  intro pins s σ H xs us Q I r h
  obtain ⟨a, vs, l, S, d, rfl, ha, rl, hf, q⟩ := h
  obtain ⟨u, rfl, rx⟩ := vals1 r
  cases rx
  obtain ⟨its, rv, hl, as, hr⟩ := items_at I ha rl
  cases l with
  | nil => cases hf
  | cons x l =>
    unfold minF at hf
    dsimp only at hf
    by_cases hq : ((x :: l).all fun a => (x :: l).all fun b => D.alk a b) = true ∧ D.deps (x :: l) ≤ 64
    · rw [if_pos hq] at hf
      cases hf
      obtain ⟨h1, h2⟩ := hq
      have hall : ∀ a ∈ x :: l, ∀ b ∈ x :: l, D.alk a b = true := fun a ha b hb => List.all_eq_true.mp (List.all_eq_true.mp h1 a ha) b hb
      have hA := alike_pys hall
      have hd : X.A.units + 1 + PyData.depthAll (D.pys (x :: l)) < cLine := by rw [pys_dep]; omega
      have fin : ∀ (i : Nat) (v : Value) (h' : Heap) tk bs', its.toArray[i]? = some v → Reads h' v (minD x.py (D.pys l)) bs' → (∀ b o, s.heap.get? b = some o → h'.get? b = some o) → EP X pins σ Q v { s with heap := h', toks := tk } := fun i v h' tk bs' hi rd k => by
        have hi' : its[i]? = some v := by simpa using hi
        obtain ⟨d, w, hd1, hd2, rw1, rel, _⟩ := rep_at rl rv hi'
        obtain ⟨cs, r2⟩ := Dp.reads I _ w v rw1.dp rel
        have r3 := reads_keeps k r2
        rw [pys_map] at rd
        rw [← mnb_py l x hall] at rd
        have hm := mnb_mem l x
        have e := alike_unique _ _ _ _ _ (py_alk _ _ (hall d hd1 _ hm)) r3 rd
        have e2 := py_inj _ _ (hall d hd1 _ hm) e
        rw [e2] at rw1
        exact ⟨w, H, I.kept k, rel, q _ rw1⟩
      have hr' : ReadsAll s.heap its.toArray.toList (x.py :: D.pys l) as := hr
      rcases hl with hl | hl
      · exact min_list_data (I.ok.hd hc) hl hr' hA hd fin
      · exact min_tuple_data (I.ok.hd hc) hl hr' hA hd fin
    · rw [if_neg hq] at hf; cases hf
theorem de_minD {p : Pos} (hc : X.calm = true) (hu : X.A.units + 66 < cLine) (ha : DP X W a m) (hm : X.mg "min" = none) (hg : Gl X "min" := by rfl)
    (he : starEach (a :: []) X.env = (false, eval a X.env) :: starEach [] X.env := by rfl) (hpl : (backTo pos (starEach [] X.env)).any (·.1) = false := by rfl) : DE X W (.Call (.Name "min" p) [a] [] pos) (e1 oMinD m) := de_b1 (call_minD hc hu) (ok_it oMinD_eq) ha hm (by decide +kernel) hg (by decide) (by decide) he hpl
end
end Fx
end

section
set_option Elab.async false
set_option linter.all false
set_option maxRecDepth 100000
set_option maxHeartbeats 4000000
/-! Wsf: sorted(rows) where the first row is empty; a op b op c op d; range(a, b, -1). -/
namespace Fx
open PySem PySem.Spec PyProof.Rows L2 PySem.W PySem.Calls
def rSortE (K : Frag) : List V → Hp → VK → Prop := fun vs H Q => ∃ (a : Addr) (xs : List V) (S : SP') (rs : List (List Int)), vs = [V.ref a] ∧ SqL K H a xs ∧ reps K S H (([] :: rs).map tiD) xs ∧
  ∀ ys p, H p = none → ys.length = xs.length → reps K S H ((([] :: rs).mergeSort fun a b => decide (a ≤ b)).map tiD) ys → Q (.ref p) (upd H p (.lst ys))
theorem cr_sortE {X : Cx} (hu : X.A.units + 66 < cLine) : CallR X (.builtin "sorted") (rSortE X.K) := by
  intro pins s σ H vs us Q I r h
  obtain ⟨a, xs, S, rs, rfl, hs, hr, q⟩ := h
  have hlr : ([] :: rs).length = xs.length := by have := hr.length; rwa [List.length_map] at this
  obtain ⟨its, rv, hl, hz⟩ := I.list hs
  rw [Vals.ref1 r]
  obtain ⟨as, ra⟩ := Dp.readsAll I _ xs its hr.dp rv
  rw [pys_tis] at ra
  have hl2 : xs.length = its.length := Vals.length rv
  have e := each_tis hr rv
  have er := readsAll_each (fun r : List Int => PyData.tuple (r.map PyData.int)) ra
  have er' : EachIs (fun v b => ∃ as, Reads (sortingHeap (copyHeap s.heap its) (s.heap.objs.size + 1) its) v (PyData.tuple (b.map PyData.int)) as) its ([] :: rs) := er.mono fun _ _ ⟨as, r⟩ => ⟨as, PyProof.Rows.Reads.keeps (fun _ _ => sorting_copy_old) r⟩
  have hal : AllAlike (([] :: rs).map fun r => PyData.tuple (r.map PyData.int)) := AllAlike.of fun r r' => by simp only [alike]; exact alike_ints r r'
  have S1 := sortsAtE (prog := X.prog) (w := X.w) (A := X.A.in1.in1) (s := { s with heap := sortingHeap (copyHeap s.heap its) (s.heap.objs.size + 1) its }) (ds := rs.map fun r => PyData.tuple (r.map PyData.int)) (each_map (R := fun v d => ∃ as, Reads (sortingHeap (copyHeap s.heap its) (s.heap.objs.size + 1) its) v d as) (fun r : List Int => PyData.tuple (r.map PyData.int)) er') hal
    (fun d hd => by
      obtain ⟨b, _, rfl⟩ := List.mem_map.mp hd
      exact ⟨_, rfl⟩)
    (fun d hd => by
      have : d.depth = 1 := by
        rcases List.mem_cons.mp hd with rfl | hd
        · rfl
        · obtain ⟨b, _, rfl⟩ := List.mem_map.mp hd
          simp only [PyData.depth, depth_ints]
      rw [this]
      show X.A.units + 1 + 1 + 1 < cLine
      omega)
  have hd : dataLe false (fun r : List Int => PyData.tuple (r.map PyData.int)) = fun a b => decide (a ≤ b) := dataLe_tis
  have key : ∀ (its : List Value), xs.length ≤ sizeLine → ∀ out : List Value, out.length = ([] :: rs).length → EachIs (fun v r => ∃ x, rep X.K S H (tiD r) x ∧ RelV x v) out (([] :: rs).mergeSort (dataLe false fun r : List Int => PyData.tuple (r.map PyData.int))) →
      EP X pins σ Q (.ref (s.heap.objs.size + 1)) { s with heap := sortedAll s.heap its (List.toArray out) } := fun its hz out hl e => by
    obtain ⟨ep, he'⟩ := PyProof.Rows.sortedAll_at s.heap its (List.toArray out)
    rw [hd] at e
    obtain ⟨ys, h1, h2⟩ := tis_each e
    have hy : ys.length = xs.length := by rw [Vals.length h2, hl, hlr]
    exact ⟨.ref _, upd H (s.heap.objs.size + 1) (.lst ys), I.laid (t' := s.toks) (fun _ _ => PyProof.Rows.sortedAll_old) (Nat.le_succ _) ⟨by omega, out, ep, h2, he'⟩, rfl, q _ _ (I.hok.fresh (Nat.le_succ _)) hy h1⟩
  exact sorted_vals hl.isList S1 (by rw [← hl2]; exact hz) (key its hz _ (by rw [sortVals_length false rfl, ← hl2, hlr]) (sortVals_data false e er' hal))
theorem ints_of' : ∀ {l : List D} {ns : List Int}, D.ints l = some ns → l = ns.map .int
  | [], _, e => by simp [D.ints] at e; subst e; rfl
  | .int i :: l, _, e => by
    simp only [D.ints] at e
    cases q : D.ints l with
    | none => rw [q] at e; cases e
    | some ms => rw [q] at e; cases e; rw [ints_of' q]; rfl
  | .non :: _, _, e => by cases e
  | .bl _ :: _, _, e => by cases e
  | .str _ :: _, _, e => by cases e
  | .tup _ :: _, _, e => by cases e
  | .lst _ :: _, _, e => by cases e
theorem rowsE_of : ∀ {l : List D} {rs : List (List Int)}, D.rowsE l = some rs → l = rs.map tiD
  | [], _, e => by cases e; rfl
  | .tup r :: l, _, e => by
    simp only [D.rowsE] at e
    cases q1 : D.ints r with
    | none => rw [q1] at e; cases e
    | some ns =>
      cases q2 : D.rowsE l with
      | none => rw [q1, q2] at e; cases e
      | some rs =>
        rw [q1, q2] at e
        cases e
        rw [List.map_cons, ← rowsE_of q2, ints_of' q1]
        rfl
  | .non :: _, _, e => by cases e
  | .bl _ :: _, _, e => by cases e
  | .str _ :: _, _, e => by cases e
  | .int _ :: _, _, e => by cases e
  | .lst _ :: _, _, e => by cases e
theorem sortE_of {l : List D} {z : Vl} (h : sortE l = some z) : ∃ rs, l = ([] :: rs).map tiD ∧ z = .o ((([] :: rs).mergeSort fun a b => decide (a ≤ b)).map tiD) := by
  unfold sortE at h
  split at h
  · rename_i rs q
    cases h
    exact ⟨rs, rowsE_of q, rfl⟩
  · cases h
theorem ok_sortE {K : Frag} : Op1 K (RP K) oSortE (fun x H Q => rSortE K [x] H Q) := by
  intro S H x z fx u Q e dom sep rx h
  obtain ⟨l, a, vs, hl, h1, h2, h3⟩ : ∃ l a vs, sortE l = some z ∧ u = .ref a ∧ SqL K H a vs ∧ reps K S H l vs := by
    cases x with
    | v d =>
      cases d with
      | lst l =>
        obtain ⟨_, a, vs, h1, h2, h3⟩ := rx
        exact ⟨l, a, vs, e, h1, h2, h3⟩
      | _ => cases e
    | o l =>
      obtain ⟨a, vs, h1, h2, h3, h4⟩ := rx
      exact ⟨l, a, vs, e, h1, .inl (.inl h3), h4⟩
    | _ => cases e
  obtain ⟨rs, rfl, rfl⟩ := sortE_of hl
  refine ⟨a, vs, S, rs, by rw [h1], h2, h3, fun ys p hp hy hr => ?_⟩
  obtain ⟨k, fr, sp, rt⟩ := fresh_lst hr hp dom
  exact h _ [p] _ k fr sp rt
section
variable {X : Cx} {W : WX} {a b c d : Expr} {pos : Pos} {m n o p : M Vl}
theorem de_sortE {p : Pos} (hu : X.A.units + 66 < cLine) (ha : DP X W a m) (hm : X.mg "sorted" = none) (hg : Gl X "sorted" := by rfl)
    (he : starEach (a :: []) X.env = (false, eval a X.env) :: starEach [] X.env := by rfl) (hpl : (backTo pos (starEach [] X.env)).any (·.1) = false := by rfl) : DE X W (.Call (.Name "sorted" p) [a] [] pos) (e1 oSortE m) := de_b1 (cr_sortE hu) ok_sortE ha hm (by decide +kernel) hg (by decide) (by decide) he hpl
/-! ### a op b op c op d -/
def tChain3 (r r' r'' : R2) (ta tb tc td : TE) : TE := fun σ H Q => ta σ H fun x H1 => tb σ H1 fun y H2 => r x y H2 fun z H3 => ∃ k, z = .bl k ∧
  (if k = true then tc σ H3 fun w' H4 => r' y w' H4 fun z' H5 => ∃ k', z' = .bl k' ∧ (if k' = true then td σ H5 fun w'' H6 => r'' w' w'' H6 Q else Q (.bl false) H5) else Q (.bl false) H3)
theorem pe_chain3 {op op' op'' : CmpOp} {r r' r'' : R2} {ta tb tc td : TE} (ho : OpR X (compareOp op) r) (ho' : OpR X (compareOp op') r') (ho'' : OpR X (compareOp op'') r'') (ha : PE X a ta) (hb : PE X b tb) (hc : PE X c tc) (hd : PE X d td)
    (hm : lastMarks [op, op', op''] [b, c, d] = false := by with_unfolding_all rfl) : PE X (.Compare a [op, op', op''] [b, c, d] pos) (tChain3 r r' r'' ta tb tc td) := by
  refine ⟨fun pins s σ H Q I h => ?_⟩
  refine Compare_chain (thn (ha.run pins s σ H _ I h) fun v s1 ⟨x, H1, I1, r1, q1⟩ => chain_link (thn (hb.run pins s1 σ H1 _ I1 q1) fun u s2 ⟨y, H2, I2, r2, q2⟩ =>
    thn (ho pins s2 σ H2 x y v u _ I2 r1 r2 q2) fun d s3 ⟨z, H3, I3, r3, k, e, q3⟩ => ?_)) hm
  subst e
  cases r3
  refine wpAny_truthy_bool ?_
  cases k with
  | false => exact ite_ff ⟨.bl false, H3, I3, rfl, q3⟩
  | true =>
    refine ite_tt (chain_link (thn (hc.run pins s3 σ H3 _ I3 q3) fun w' s4 ⟨z', H4, I4, r4, q4⟩ => thn (ho' pins s4 σ H4 y z' u w' _ I4 r2 r4 q4) fun d' s5 ⟨z5, H5, I5, r5, k5, e5, q5⟩ => ?_))
    subst e5
    cases r5
    refine wpAny_truthy_bool ?_
    cases k5 with
    | false => exact ite_ff ⟨.bl false, H5, I5, rfl, q5⟩
    | true => exact ite_tt (chain_last (thn (hd.run pins s5 σ H5 _ I5 q5) fun w6 s6 ⟨z6, H6, I6, r6, q6⟩ => ho'' pins s6 σ H6 z' z6 w' w6 Q I6 r4 r6 q6))
theorem chain3_tr {f g h : Vl → Vl → Option Vl} {r r' r'' : R2} (ok : Op2 X.K (repV X.K) (repV X.K) f r) (ok' : Op2 X.K (repV X.K) (repV X.K) g r') (ok'' : Op2 X.K (repV X.K) (repV X.K) h r'') {σ : L2.St} {H : Hp} {Q : VK} (hh : TR X.K X.mg W (repV X.K) (eChain3 f g h m n o p) σ H Q) :
    tChain3 r r' r'' (TR X.K X.mg W (repV X.K) m) (TR X.K X.mg W (repV X.K) n) (TR X.K X.mg W (repV X.K) o) (TR X.K X.mg W (repV X.K) p) σ H Q := by
  refine TR.bind (R' := repV X.K) (k := fun x e => (n e).then fun y e => match y, f x y with
    | .v _, some (.v (.bl true)) => (o e).then fun z e => (match z, g y z with
      | .v _, some (.v (.bl true)) => (p e).then fun u e => lift (h z u) e
      | .v _, some (.v (.bl false)) => .ok (.v (.bl false)) e
      | _, _ => .bad)
    | .v _, some (.v (.bl false)) => .ok (.v (.bl false)) e
    | _, _ => .bad) (Q := Q) hh fun S e fp S1 H1 e1 fp1 fx x u wd ext wd1 sep1 rx p1 => ?_
  refine TR.next (R' := repV X.K) (k := fun y e => match y, f x y with
    | .v _, some (.v (.bl true)) => (o e).then fun z e => (match z, g y z with
      | .v _, some (.v (.bl true)) => (p e).then fun u e => lift (h z u) e
      | .v _, some (.v (.bl false)) => .ok (.v (.bl false)) e
      | _, _ => .bad)
    | .v _, some (.v (.bl false)) => .ok (.v (.bl false)) e
    | _, _ => .bad) (Q := Q) wd1 ext sep1 p1 fun S2 H2 e2 fp2 fy y v ext2 st keep wd2 sep2 ry p2 => ?_
  have sxy : Sep S2 H2 (fx ++ fy) := by
    have h := sep2
    rw [← List.append_assoc] at h
    exact h.app1
  have ext2' : Ext S H fp S2 H2 fp2 := ext2.drop.drop
  split at p2
  · rename_i d hf
    refine ok S2 H2 x _ _ fx fy u v _ hf wd2.dom sxy (wt_rep _ _ _ _ _ _ _ _ st keep rx) ry fun H3 fz w k fr sz rz => ?_
    have hz := rep_v rz
    unfold rep at hz
    refine ⟨true, hz, ?_⟩
    rw [if_pos rfl]
    have ext3 : Ext S H fp S2 H3 fp2 := (ext2'.grow k fr).drop
    have wd3 := wd2.grow k
    have ry3 : repV X.K S2 H3 (.v d) fy v := ry.stb (Stb.grow k) fun a q => by rw [ry.1] at q; cases q
    refine ⟨S2, e2, fp2, wd3, ?_⟩
    cases ho : o e2 with
    | bad => simp only [ho, Rs.then] at p2; exact p2
    | ex x' e3 => simp only [ho, Rs.then] at p2; exact exW.more p2 ext3
    | ok z e3 =>
      simp only [ho, Rs.then] at p2
      intro S4 H4 fp4 fz4 w4 ext4 wd4 sep4 rz4
      have ry4 : repV X.K S4 H4 (.v d) [] v := by
        have := ry3.1
        subst this
        exact ry3.stb (ext4.stb wd3.sep) fun _ q => by cases q
      split at p2
      · rename_i d4 hg
        refine ok' S4 H4 (.v d) _ _ [] fz4 v w4 _ hg wd4.dom (by simpa using sep4.app1) ry4 rz4 fun H5 f5 w5 k5 fr5 sz5 rz5 => ?_
        have hz5 := rep_v rz5
        unfold rep at hz5
        refine ⟨true, hz5, ?_⟩
        rw [if_pos rfl]
        have ext5 : Ext S H fp S4 H5 fp4 := ((ext3.trans ext4.drop).grow k5 fr5).drop
        have wd5 := wd4.grow k5
        have rz5' : repV X.K S4 H5 (.v d4) fz4 w4 := rz4.stb (Stb.grow k5) fun a q => by rw [rz4.1] at q; cases q
        refine ⟨S4, e3, fp4, wd5, ?_⟩
        cases hp : p e3 with
        | bad => simp only [hp, Rs.then] at p2; exact p2
        | ex x' e4 => simp only [hp, Rs.then] at p2; exact exW.more p2 ext5
        | ok u6 e6 =>
          simp only [hp, Rs.then] at p2
          cases hh6 : h (.v d4) u6 with
          | none => rw [hh6] at p2; exact p2.elim
          | some zz =>
            rw [hh6] at p2
            intro S6 H6 fp6 fz6 w6 ext6 wd6 sep6 rz6
            have rz7 : repV X.K S6 H6 (.v d4) [] w4 := by
              have := rz5'.1
              subst this
              exact rz5'.stb (ext6.stb wd5.sep) fun _ q => by cases q
            refine ok'' S6 H6 (.v d4) u6 zz [] fz6 w4 w6 Q hh6 wd6.dom (by simpa using sep6.app1) rz7 rz6 fun H7 f7 w7 k7 fr7 sz7 rz8 => ?_
            exact p2 S6 H7 fp6 f7 w7 (((ext5.trans ext6.drop).grow k7 fr7)) (wd6.grow k7) (wd6.sep.grow sz7 k7 fr7) rz8
      · rename_i d4 hg
        refine ok' S4 H4 (.v d) _ _ [] fz4 v w4 _ hg wd4.dom (by simpa using sep4.app1) ry4 rz4 fun H5 f5 w5 k5 fr5 sz5 rz5 => ?_
        have hz5 := rep_v rz5
        unfold rep at hz5
        refine ⟨false, hz5, ?_⟩
        rw [if_neg Bool.false_ne_true]
        exact p2 S4 H5 fp4 [] _ ((ext3.trans ext4.drop).grow k5 fr5).drop (wd4.grow k5) (wd4.grow k5).sep ⟨rfl, rep_bl _⟩
      · exact p2.elim
  · rename_i d hf
    refine ok S2 H2 x _ _ fx fy u v _ hf wd2.dom sxy (wt_rep _ _ _ _ _ _ _ _ st keep rx) ry fun H3 fz w k fr sz rz => ?_
    have hz := rep_v rz
    unfold rep at hz
    refine ⟨false, hz, ?_⟩
    rw [if_neg Bool.false_ne_true]
    exact p2 S2 H3 fp2 [] _ (ext2'.grow k fr).drop (wd2.grow k) (wd2.grow k).sep ⟨rfl, rep_bl _⟩
  · exact p2.elim
theorem de_chain3 {op op' op'' : CmpOp} {f g h : Vl → Vl → Option Vl} {r r' r'' : R2} (ho : OpR X (compareOp op) r) (ho' : OpR X (compareOp op') r') (ho'' : OpR X (compareOp op'') r'') (ok : Op2 X.K (repV X.K) (repV X.K) f r) (ok' : Op2 X.K (repV X.K) (repV X.K) g r') (ok'' : Op2 X.K (repV X.K) (repV X.K) h r'') (ha : DE X W a m) (hb : DE X W b n) (hc : DE X W c o) (hd : DE X W d p)
    (hm : lastMarks [op, op', op''] [b, c, d] = false := by with_unfolding_all rfl) : DE X W (.Compare a [op, op', op''] [b, c, d] pos) (eChain3 f g h m n o p) := ⟨PEm (pe_chain3 ho ho' ho'' ha.p hb.p hc.p hd.p hm) fun σ H Q h => chain3_tr ok ok' ok'' h⟩
theorem pt_chain3 {op op' op'' : CmpOp} {r r' r'' : R2} {ta tb tc td : TE} (ho : OpR X (compareOp op) r) (ho' : OpR X (compareOp op') r') (ho'' : OpR X (compareOp op'') r'') (ha : PE X a ta) (hb : PE X b tb) (hc : PE X c tc) (hd : PE X d td)
    (hm : lastMarks [op, op', op''] [b, c, d] = false := by with_unfolding_all rfl) : PT X (.Compare a [op, op', op''] [b, c, d] pos) (tTest (tChain3 r r' r'' ta tb tc td)) := by
  refine ⟨fun pins s σ H Q I h => ?_⟩
  refine isTrue_chain (thn (ha.run pins s σ H _ I h) fun v s1 ⟨x, H1, I1, r1, q1⟩ => test_link (thn (hb.run pins s1 σ H1 _ I1 q1) fun u s2 ⟨y, H2, I2, r2, q2⟩ =>
    thn (ho pins s2 σ H2 x y v u _ I2 r1 r2 q2) fun d s3 ⟨z, H3, I3, r3, k, e, q3⟩ => ?_)) hm
  subst e
  cases r3
  refine wpAny_truthy_bool ?_
  cases k with
  | false =>
    obtain ⟨k', e', q'⟩ := q3
    cases e'
    exact ite_ff ⟨H3, I3, q'⟩
  | true =>
    refine ite_tt (test_link (thn (hc.run pins s3 σ H3 _ I3 q3) fun w' s4 ⟨z', H4, I4, r4, q4⟩ => thn (ho' pins s4 σ H4 y z' u w' _ I4 r2 r4 q4) fun d' s5 ⟨z5, H5, I5, r5, k5, e5, q5⟩ => ?_))
    subst e5
    cases r5
    refine wpAny_truthy_bool ?_
    cases k5 with
    | false =>
      obtain ⟨k', e', q'⟩ := q5
      cases e'
      exact ite_ff ⟨H5, I5, q'⟩
    | true =>
      refine ite_tt (test_last (thn (hd.run pins s5 σ H5 _ I5 q5) fun w6 s6 ⟨z6, H6, I6, r6, q6⟩ => thn (ho'' pins s6 σ H6 z' z6 w' w6 _ I6 r4 r6 q6) fun d7 s7 ⟨z7, H7, I7, r7, k7, e7, q7⟩ => ?_))
      subst e7
      cases r7
      exact wpAny_truthy_bool ⟨H7, I7, q7⟩
theorem dt_chain3 {op op' op'' : CmpOp} {f g h : Vl → Vl → Option Vl} {r r' r'' : R2} (ho : OpR X (compareOp op) r) (ho' : OpR X (compareOp op') r') (ho'' : OpR X (compareOp op'') r'') (ok : Op2 X.K (repV X.K) (repV X.K) f r) (ok' : Op2 X.K (repV X.K) (repV X.K) g r') (ok'' : Op2 X.K (repV X.K) (repV X.K) h r'') (ha : DE X W a m) (hb : DE X W b n) (hc : DE X W c o) (hd : DE X W d p)
    (hm : lastMarks [op, op', op''] [b, c, d] = false := by with_unfolding_all rfl) : DT X W (.Compare a [op, op', op''] [b, c, d] pos) (Fx.tB (eChain3 f g h m n o p)) := ⟨PTm (pt_chain3 ho ho' ho'' ha.p hb.p hc.p hd.p hm) fun σ H Q q => ttest (fun σ H Q h => chain3_tr ok ok' ok'' h) q⟩
/-! ### range(a, b, -1) -/
theorem wk_rngD {K : PySem.W.Frag} {S : SP'} {H : Hp} {lo : Int} {n : Nat} : Wk K S H (Itc lo (-1) n) (rngD lo n) := fun S' H' st => by
  refine ⟨fun i d e => ?_, ?_⟩
  · unfold rngD at e
    rw [List.getElem?_map] at e
    cases q : (List.range n)[i]? with
    | none => rw [q] at e; cases e
    | some k =>
      rw [q] at e
      have hk := List.getElem?_eq_some_iff.mp q
      obtain ⟨h1, h2⟩ := hk
      simp at h1 h2
      subst h2
      cases e
      refine ⟨h1, fun x H3 y => ?_⟩
      obtain ⟨y1, y2⟩ := y
      subst y1 y2
      have ee : lo + ((i : Nat) : Int) * (-1) = lo - ((i : Nat) : Int) := by omega
      rw [ee]
      exact ⟨fun _ _ h => h, (rep_int (K := K) (S := S') (H := H3) _)⟩
  · show n ≤ (rngD lo n).length
    unfold rngD
    simp
theorem di_r3 {tg : Expr} {p : Pos} {w1 : Expr} (ha : DE X W a m) (hb : DE X W b n) (hw : DE X W w1 (e1 oNeg (eC (.int 1)))) (hm : X.mg "range" = none) (hg : Gl X "range" := by rfl)
    (hs : starEach [a, b, w1] X.env = (false, eval a X.env) :: starEach [b, w1] X.env := by rfl) (hpl : (backTo pos (starEach [b, w1] X.env)).any (·.1) = false := by rfl)
    (he2 : starEach [b, w1] X.env = (false, eval b X.env) :: starEach [w1] X.env := by rfl) (he3 : starEach [w1] X.env = (false, eval w1 X.env) :: starEach [] X.env := by rfl) : DI X W tg (.Call (.Name "range" p) [a, b, w1] [] pos) (iR3 m n) := by
  refine ⟨PIm (pi_range3 hg hm (pa_cons ha.p (pa_cons hb.p (pa_cons hw.p pa_nil he3) he2) hs) hs hpl) fun σ H R q => ?_⟩
  refine TR.bind (k := fun x e => (n e).then fun y e => match x, y with | .v (.int i), .v (.int j) => if smallI i && smallI j then .ok (rngD i (i - j).toNat) e else .bad | _, _ => .bad) q fun S e fp S1 H1 e1 fp1 fx x v wd ext wd1 sep1 rx p => ?_
  refine TR.next (k := fun y e => match x, y with | .v (.int i), .v (.int j) => if smallI i && smallI j then .ok (rngD i (i - j).toNat) e else .bad | _, _ => .bad) wd1 ext sep1 p fun S2 H2 e2 fp2 fy y u ext2 st keep wd2 sep2 ry p2 => ?_
  refine ⟨S2, e2, fp2, wd2, ?_⟩
  have he : Fx.e1 oNeg (eC (.int 1)) e2 = .ok (.v (.int (-1))) e2 := rfl
  rw [he]
  intro S4 H4 fp4 fz4 w4 ext4 wd4 sep4 rz4
  split at p2
  · rename_i i j
    split at p2
    · rename_i hj
      have hx := rx.2
      have hy := ry.2
      have hw4 := rz4.2
      unfold rep at hx hy hw4
      simp only [Bool.and_eq_true] at hj
      obtain ⟨hj1, hj2⟩ := small_of hj.1
      obtain ⟨hj3, hj4⟩ := small_of hj.2
      exact ⟨i, j, -1, _, by rw [hx, hy, hw4], RgC.neg (by omega) (by omega) (by omega) (by omega), p2 S4 H4 fp4 [] _ (ext2.drop.drop.trans ext4.drop) wd4 wd4.sep ⟨rfl, wk_rngD⟩⟩
    · exact p2.elim
  · exact p2.elim
end
end Fx
end

section
set_option Elab.async false
set_option linter.all false
set_option maxRecDepth 100000
set_option maxHeartbeats 4000000
/-! Wcw: a comprehension that walks a list of one's own. -/
namespace Fx
open PySem PySem.Spec PyProof.Rows L2 PySem.W PySem.Calls
section
variable {X : Cx} {W : WX} {pos : Pos}
theorem itl_at {K : PySem.W.Frag} {S : SP'} {H : Hp} {a : Addr} {vs : List V} {l : List D} (h' : SqL K H a vs) (r : reps K S H l vs) :
    (∀ (i : Nat) (d : D), l[i]? = some d → (Itl K a).go i H ∧ ∀ x H3, (Itl K a).yld i H x H3 → (∀ a o, H a = some o → H3 a = some o) ∧ RY K false S H3 d x) ∧ (Itl K a).stop l.length H := by
  refine ⟨fun i d e => ?_, ⟨vs, h', by rw [r.length]; exact Nat.le_refl _⟩⟩
  obtain ⟨v, hv, rv⟩ := r.get e
  refine ⟨⟨vs, v, h', hv⟩, fun x H3 y => ?_⟩
  obtain ⟨y1, y2⟩ := y
  subst y1
  have := y2 vs h'
  rw [hv] at this
  cases this
  exact ⟨fun _ _ h => h, rv⟩
theorem compW_tr {vs ts : List Nat} {k : Nat} {g : D → En → Option En} {t : M Bool} {x : M Vl} (hts : ∀ i ∈ ts, i ∈ vs) {σ : L2.St} {H : Hp} {Q : VK} (h : TR X.K X.mg W (repV X.K) (eCompW vs k g t x) σ H Q) :
    tLc (iList X.K (tVar k)) (TGd X.K ts g false) (TR X.K X.mg W0 RB t) (TR X.K X.mg W0 (repV X.K) x) vs σ H Q := by
  obtain ⟨S, e, fp, wd, p⟩ := h
  unfold eCompW at p
  split at p
  · rename_i l he
    split at p
    · rename_i hl
      cases hr : compGo vs g t x l [] (Fx.hide (e.set k none) vs) with
      | bad => simp [hr, Rs.post] at p
      | ex _ _ => simp [hr, Rs.post] at p
      | ok accF eF =>
        simp only [hr, Rs.post] at p
        obtain ⟨v, f2, fpk, hσ, rv, wdk, sepk, sub2, subk, _⟩ := wd.take he
        obtain ⟨a, ws, rfl, rfl, ha, hrep⟩ := rv
        have hsq : SqL X.K H a ws := .inl (.inl ha)
        refine ⟨.ref a, hσ, a, rfl, ⟨ws, hsq⟩, ?_⟩
        intro D' hD
        have keep : ∀ {S' H' fp' e' acc}, CI X.K S H fpk D' (wipe σ vs) e' acc H' S' fp' → H' a = some (.lst ws) ∧ Sep S' H' ([a] ++ ([D'] ++ fp')) := fun {S' H' fp' e' acc} ci => by
          obtain ⟨s1, s2⟩ := sepk.wait ci.ext ci.sep
          exact ⟨by rw [s2 a (by simp)]; exact ha, s1⟩
        refine ⟨fun i m H' => m = l.length - i ∧ i ≤ l.length ∧ ∃ S' fp' e' acc, acc.length ≤ i ∧ CI X.K S H fpk D' (wipe σ vs) e' acc H' S' fp' ∧ compGo vs g t x (l.drop i) acc e' = .ok accF eF, ⟨l.length, by simp, Nat.zero_le _, ?_⟩, ?_⟩
        · obtain ⟨fp', ci⟩ := CI.start (vs := vs) wdk hD
          exact ⟨S, fp', _, [], Nat.le_refl _, ci, by simpa using hr⟩
        · rintro i m H' ⟨rfl, hi, S', fp', e', acc, hacc, ci, hgo⟩
          obtain ⟨ha', _⟩ := keep ci
          obtain ⟨wk1, wk2⟩ := itl_at (K := X.K) (S := S') (H := H') (a := a) (.inl (.inl ha')) (reps.stb (ci.stb wdk.sep) _ _ hrep)
          by_cases hlt : i < l.length
          · have hd : l.drop i = l[i] :: l.drop (i + 1) := List.drop_eq_getElem_cons hlt
            obtain ⟨go, yl⟩ := wk1 i l[i] (by simp [hlt])
            refine .inr ⟨go, fun H2 => ∃ S' fp' e' acc, acc.length ≤ i + 1 ∧ CI X.K S H fpk D' (wipe σ vs) e' acc H2 S' fp' ∧ compGo vs g t x (l.drop (i + 1)) acc e' = .ok accF eF, fun H2 h2 => ⟨l.length - (i + 1), by omega, rfl, hlt, h2⟩, fun y H2 hy => ?_⟩
            obtain ⟨gr, ry⟩ := yl y H2 hy
            have ci2 : CI X.K S H fpk D' (wipe σ vs) e' acc H2 S' fp' := ci.step ((Ext.refl S' H' fp').grow (fz := []) gr (fun _ q => absurd q (by simp))) (ci.wd.grow gr)
            rw [hd] at hgo
            unfold compGo at hgo
            cases hgd : g l[i] e' with
            | none => simp [hgd] at hgo
            | some e2 =>
              simp only [hgd] at hgo
              refine ⟨S', e', fp', l[i], e2, ci2.wd, ry, hgd, fun σ2 Sg Hg fp2 xg wd2 o2 => ?_⟩
              have ew : wipe σ2 vs = wipe σ vs := by
                have h1 := wipe_out (vs := vs) o2 hts
                rw [h1]
                exact wipe_wipe fun _ h => h
              refine ⟨ew, ?_⟩
              have ci3 := ci2.step xg wd2
              refine comp_item (cont := fun acc e3 => compGo vs g t x (l.drop (i + 1)) acc (Fx.hide e3 vs)) ci3 hD (lim_lt (Nat.lt_of_le_of_lt hacc hlt) hl) hgo fun S4 H4 fp4 e4 acc4 hle ci4 hc4 => ?_
              obtain ⟨fp5, wd5, sub5⟩ := ci4.wd.hide (vs := vs)
              rw [ew] at wd5
              exact ⟨S4, fp5, _, acc4, by omega, ci4.same wd5 sub5, hc4⟩
          · have ei : i = l.length := by omega
            subst ei
            refine .inl ⟨wk2, ?_⟩
            rw [List.drop_length] at hgo
            unfold compGo at hgo
            cases hgo
            obtain ⟨fp6, wd6, sub6⟩ := Wd.unhide wdk (ci.stb wdk.sep) (wipe_length σ vs) (vs := vs) ci.wd
            rw [back_wipe] at wd6
            have ci6 := ci.same wd6 sub6
            obtain ⟨ws6, h1, h2⟩ := ci6.at_
            obtain ⟨s1, s2⟩ := sepk.wait ci6.ext ci6.sep
            have ha6 : H' a = some (.lst ws) := by rw [s2 a (by simp)]; exact ha
            have perm : ([a] ++ ([D'] ++ fp6)).Perm ([D'] ++ ([a] ++ fp6)) := List.Perm.swap _ _ _
            have s3 : Sep S' H' ([D'] ++ ([a] ++ fp6)) := s1.perm perm
            have rv6 : repV X.K S' H' (.o l) [a] (.ref a) := ⟨a, ws, rfl, rfl, ha6, reps.stb (ci6.stb wdk.sep) _ _ hrep⟩
            obtain ⟨fp7, wd7, sub7⟩ := wd6.put (i := k) s3.app2 rv6
            rw [set_same hσ] at wd7
            have hDn : ∀ b ∈ fp7, b ∉ [D'] := fun b hb hb2 => by
              have := (List.nodup_append.mp s3.nd).2.2 D' (by simp) b (sub7 b hb)
              simp at hb2
              exact this hb2.symm
            have sep7 : Sep S' H' ([D'] ++ fp7) := by
              refine ⟨List.nodup_append.mpr ⟨by simp, wd7.sep.nd, fun b hb c hc z => by subst z; exact hDn b hc hb⟩, fun b hb => ?_, fun b hb => ?_⟩
              · rcases List.mem_append.mp hb with q | q
                · exact s3.ns b (List.mem_append_left _ q)
                · exact wd7.sep.ns b q
              · rcases List.mem_append.mp hb with q | q
                · exact s3.ow b (List.mem_append_left _ q)
                · exact wd7.sep.ow b q
            refine p S' H' fp7 [D'] _ ⟨fun b o hb hm => ci6.ext.keep b o hb fun z => hm (subk b z), fun b hb => ?_, ci6.ext.mono, fun b hb => ?_⟩ wd7 sep7 ⟨D', ws6, rfl, rfl, h1, h2⟩
            · rcases List.mem_append.mp hb with q | q
              · rcases ci6.ext.fresh b (List.mem_append_left _ q) with z | z
                · exact .inl (subk b z)
                · exact .inr z
              · rcases List.mem_append.mp (sub7 b q) with q | q
                · exact .inl (sub2 b q)
                · rcases ci6.ext.fresh b (List.mem_append_right _ q) with z | z
                  · exact .inl (subk b z)
                  · exact .inr z
            · rcases ci6.ext.sfr b hb with z | z | z
              · exact .inl z
              · exact .inr (.inl (subk b z))
              · exact .inr (.inr z)
    · exact p.elim
  · exact p.elim
theorem de_compW {elt tg : Expr} {k : Nat} {y : Str} {p1 : Pos} {ifs : List Expr} {scope : Scope} {own : List (Str × Nat)} {ts : List Nat} {g : D → En → Option En} {t : M Bool} {x : M Vl} (hc : X.calm = true) (hN : X.N.Nodup) (ok : BlkOk X.N X.env.scope scope own)
    (hg : ∀ (s : Shared) (H : Hp) (C : Addr) (cl : List (Str × Addr)) (fp : List Addr), DG (X.blk s H scope (compEnvC scope cl C X.env) fp) ts tg g) (ht : ∀ (s : Shared) (H : Hp) (C : Addr) (cl : List (Str × Addr)) (fp : List Addr), DTs (X.blk s H scope (compEnvC scope cl C X.env) fp) ifs t)
    (he : ∀ (s : Shared) (H : Hp) (C : Addr) (cl : List (Str × Addr)) (fp : List Addr), DE (X.blk s H scope (compEnvC scope cl C X.env) fp) W0 elt x) (hts : ∀ i ∈ ts, i ∈ own.map (·.2) := by decide) (hs : ∀ x, foldedSetIterable (.Name y p1) X.env x = pure x := by intro _; rfl) (hy : X.N[k]? = some y := by rfl) (hv : Vis X.env.scope y := by first | exact Or.inl rfl | exact Or.inr (Or.inl rfl) | exact Or.inr (Or.inr rfl)) (hd : (y == ("__debug__" : Str)) = false := by decide) (hcd : (y == ("__classdict__" : Str)) = false := by decide) :
    DE X W (.ListComp elt [⟨tg, .Name y p1, ifs, 0⟩] scope pos) (eCompW (own.map (·.2)) k g t x) := by
  exact ⟨PEm (pe_lc (g := TGd X.K ts g false) (tt := TR X.K X.mg W0 RB t) (te := TR X.K X.mg W0 (repV X.K) x) hc hN (pi_list (pe_var hy hv hd hcd)) ok (fun s H C cl fp => (hg s H C cl fp).p) (fun s H C cl fp => (ht s H C cl fp).p) (fun s H C cl fp => (he s H C cl fp).p) hs) fun σ H Q h => compW_tr hts h⟩
end
end Fx
end

section
/-! Dat3: sorted(set(..)) of a tuple of whole numbers. -/
namespace Fx
def ins1 (x : Int) : List Int → List Int
  | [] => [x]
  | y :: l => if x < y then x :: y :: l else if x = y then y :: l else y :: ins1 x l
/-- the numbers, each once, in order -/
def usort (l : List Int) : List Int := l.foldl (fun a x => ins1 x a) []
def oSortSet : Vl → Option Vl
  | .v (.tup l) => match D.ints l with
    | some ns => if ns.length < 64 then some (.o ((usort ns).map .int)) else none
    | none => none
  | _ => none
theorem ins1_mem (x : Int) : ∀ (l : List Int) (y : Int), y ∈ ins1 x l ↔ y = x ∨ y ∈ l
  | [], y => by simp [ins1]
  | z :: l, y => by
    unfold ins1
    split
    · simp
    · split
      · rename_i h; subst h; simp
      · rw [List.mem_cons, ins1_mem x l y, List.mem_cons]
        constructor
        · rintro (h | h | h)
          · exact .inr (.inl h)
          · exact .inl h
          · exact .inr (.inr h)
        · rintro (h | h | h)
          · exact .inr (.inl h)
          · exact .inl h
          · exact .inr (.inr h)
theorem ins1_sorted (x : Int) : ∀ (l : List Int), l.Pairwise (· < ·) → (ins1 x l).Pairwise (· < ·)
  | [], _ => by simp [ins1]
  | z :: l, h => by
    rw [List.pairwise_cons] at h
    unfold ins1
    split
    · rename_i q
      rw [List.pairwise_cons, List.pairwise_cons]
      refine ⟨fun a ha => ?_, h⟩
      rcases List.mem_cons.mp ha with rfl | ha
      · exact q
      · have := h.1 a ha; omega
    · split
      · rw [List.pairwise_cons]; exact h
      · rw [List.pairwise_cons]
        refine ⟨fun a ha => ?_, ins1_sorted x l h.2⟩
        rcases (ins1_mem x l a).mp ha with rfl | ha
        · omega
        · exact h.1 a ha
theorem usort_go : ∀ (l acc : List Int), acc.Pairwise (· < ·) → (l.foldl (fun a x => ins1 x a) acc).Pairwise (· < ·) ∧ ∀ y, y ∈ l.foldl (fun a x => ins1 x a) acc ↔ y ∈ l ∨ y ∈ acc
  | [], acc, h => ⟨h, by simp⟩
  | x :: l, acc, h => by
    obtain ⟨h1, h2⟩ := usort_go l (ins1 x acc) (ins1_sorted x acc h)
    refine ⟨h1, fun y => ?_⟩
    rw [List.foldl_cons, h2, ins1_mem, List.mem_cons]
    constructor
    · rintro (h | h | h)
      · exact .inl (.inr h)
      · exact .inl (.inl h)
      · exact .inr h
    · rintro ((h | h) | h)
      · exact .inr (.inl h)
      · exact .inl h
      · exact .inr (.inr h)
theorem usort_sorted (l : List Int) : (usort l).Pairwise (· < ·) := (usort_go l [] .nil).1
theorem usort_mem (l : List Int) (y : Int) : y ∈ usort l ↔ y ∈ l := by
  have := (usort_go l [] .nil).2 y
  simpa [usort] using this
theorem sorted_ext : ∀ (a b : List Int), a.Pairwise (· < ·) → b.Pairwise (· < ·) → (∀ y, y ∈ a ↔ y ∈ b) → a = b
  | [], [], _, _, _ => rfl
  | [], y :: b, _, _, h => by have := (h y).mpr (by simp); simp at this
  | x :: a, [], _, _, h => by have := (h x).mp (by simp); simp at this
  | x :: a, y :: b, h1, h2, h => by
    rw [List.pairwise_cons] at h1 h2
    have e : x = y := by
      rcases List.mem_cons.mp ((h x).mp (by simp)) with q | q
      · exact q
      · rcases List.mem_cons.mp ((h y).mpr (by simp)) with q2 | q2
        · exact q2.symm
        · have := h1.1 y q2; have := h2.1 x q; omega
    subst e
    congr 1
    refine sorted_ext a b h1.2 h2.2 fun y => ?_
    constructor
    · intro hy
      rcases List.mem_cons.mp ((h y).mp (by simp [hy])) with q | q
      · have := h1.1 y hy; omega
      · exact q
    · intro hy
      rcases List.mem_cons.mp ((h y).mpr (by simp [hy])) with q | q
      · have := h2.1 y hy; omega
      · exact q
end Fx
end

section
set_option Elab.async false
set_option linter.all false
set_option maxRecDepth 100000
set_option maxHeartbeats 4000000
/-! Wst: sorted(set(t)), t a tuple of whole numbers. -/
namespace Fx
open PySem PySem.Spec PyProof.Rows L2 PySem.W PySem.Calls
section
variable {X : Cx} {W : WX} {a : Expr} {ta : TE} {m : M Vl}
def tSSet (K : PySem.W.Frag) (ta : TE) : TE := fun σ H Q => ta σ H fun x H1 => ∃ (l : Addr) (ns : List Int), x = .ref l ∧ SqT K H1 l (ns.map V.int) ∧ ns.length < 64 ∧ ∀ p, H1 p = none → Q (.ref p) (upd H1 p (.lst ((usort ns).map V.int)))
theorem pe_sset {p p2 q pos : Pos} (hc : X.calm = true) (hg : Gl X "sorted") (hm : X.mg "sorted" = none) (hg2 : Gl X "set") (hm2 : X.mg "set" = none) (ha : PE X a ta)
    (na : starEach [a] X.env = (false, eval a X.env) :: starEach [] X.env := by rfl) : PE X (.Call (.Name "sorted" p) [.Call (.Name "set" p2) [a] [] q] [] pos) (tSSet X.K ta) := by
  refine ⟨fun pins s σ H Q I h => ?_⟩
  refine Call_ (ld_blt I hg hm boot_sorted ?_)
  refine PyProof.Rows.callWith_builtin1 (PyProof.Rows.args_cons ?_ rfl) rfl rfl
  refine Call_ (ld_blt I hg2 hm2 PyProof.Rows.boot_set ?_)
  refine PyProof.Rows.callWith_type1 (PyProof.Rows.args_cons (thn (ha.run pins s σ H _ I h) fun v s1 ⟨x, H1, I1, r1, q1⟩ => PyProof.Rows.args_nil ?_) na) na rfl
  obtain ⟨l, ns, rfl, hq, h64, q1⟩ := q1
  cases r1
  obtain ⟨its, r, pl, hz⟩ := I1.tuple hq
  have hi : IntsAre its.toArray.toList ns := ints_of_vals r
  have hd := I1.ok.hd hc
  refine call_set_tupI ns hd (show s1.heap.IsTuple l its.toArray from pl) hi (by unfold scanBound; omega) fun h' tk c R1 hcn k => ?_
  refine PyProof.Rows.args_nil ?_
  have I2 : Inv X pins σ H1 { s1 with heap := h', toks := tk } := I1.kept k
  refine sorted_set (s := { s1 with heap := h', toks := tk }) R1 hd (by omega) fun s' p out c2 ns' k2 g o hp hg' hi' hs hm' hl => ?_
  have e0 : ns' = usort ns := sorted_ext _ _ hs (usort_sorted ns) fun y => by rw [hm' y, usort_mem]; simp
  subst e0
  have hlen : ((usort ns).map V.int).length ≤ sizeLine := by rw [List.length_map, hl, sizeLine_eq]; omega
  have hn : H1 p = none := I2.hok.fresh hp
  have J : Inv X pins σ (upd H1 p (.lst ((usort ns).map V.int))) { ({ s1 with heap := h', toks := tk } : Shared) with heap := s'.heap, gens := s'.gens, drawn := s'.drawn, toks := s'.toks } :=
    I2.call (ch := []) (Un.laid k2 hp hn) (I2.hok.laid k2 hp ⟨hlen, out.toList, c2, vals_of_ints hi', hg'⟩) (by rw [g]; exact I2.bare) (fun _ z => nomatch z)
  have e : s' = { ({ s1 with heap := h', toks := tk } : Shared) with heap := s'.heap, gens := s'.gens, drawn := s'.drawn, toks := s'.toks } := by
    cases s'
    cases s1
    cases o
    rfl
  rw [e]
  exact ⟨.ref p, _, J, rfl, q1 p hn⟩
theorem reps_intsS {K : PySem.W.Frag} {S : SP'} {H : Hp} : ∀ {l : List D} {ns : List Int} {vs : List V}, D.ints l = some ns → reps K S H l vs → vs = ns.map V.int := by
  intro l
  induction l with
  | nil => intro ns vs e r; simp [D.ints] at e; subst e; unfold reps at r; exact r
  | cons d l ih =>
    intro ns vs e r
    unfold reps at r
    obtain ⟨v, r', rfl, hv, hr⟩ := r
    cases d <;> simp only [D.ints] at e <;> try cases e
    rename_i i
    cases hl : D.ints l with
    | none => rw [hl] at e; cases e
    | some ms =>
      rw [hl] at e
      cases e
      unfold rep at hv
      subst hv
      rw [ih hl hr]
      rfl
theorem ints_repsS {K : PySem.W.Frag} {S : SP'} {H : Hp} : ∀ ns : List Int, reps K S H (ns.map D.int) (ns.map V.int)
  | [] => by simp [reps]
  | n :: ns => by
    rw [List.map_cons, List.map_cons]
    exact reps.cons (rep_int n) (ints_repsS ns)
theorem de_sset {p p2 q pos : Pos} (hc : X.calm = true) (ha : DE X W a m) (hm : X.mg "sorted" = none) (hm2 : X.mg "set" = none) (hg : Gl X "sorted" := by rfl) (hg2 : Gl X "set" := by rfl)
    (na : starEach [a] X.env = (false, eval a X.env) :: starEach [] X.env := by rfl) : DE X W (.Call (.Name "sorted" p) [.Call (.Name "set" p2) [a] [] q] [] pos) (e1 oSortSet m) := by
  refine ⟨PEm (pe_sset hc hg hm hg2 hm2 ha.p na) fun σ H Q h => ?_⟩
  refine TR.bind (R' := repV X.K) (k := fun x e => lift (oSortSet x) e) (Q := Q) h fun S e fp S1 H1 e1 fp1 fx x v wd ext wd1 sep1 rx pp => ?_
  cases hx : oSortSet x with
  | none => rw [hx] at pp; exact pp.elim
  | some y =>
    rw [hx] at pp
    unfold oSortSet at hx
    split at hx
    · rename_i l
      split at hx
      · rename_i ns hns
        split at hx
        · rename_i h64
          cases hx
          obtain ⟨rfl, r2⟩ := rx
          unfold rep at r2
          obtain ⟨a0, vs, rfl, h1, h2⟩ := r2
          have e0 := reps_intsS hns h2
          subst e0
          refine ⟨a0, ns, rfl, h1.sq, h64, fun p hp => ?_⟩
          obtain ⟨k, fr, sp, rt⟩ := fresh_lst (ints_repsS (K := X.K) (S := S1) (H := H1) (usort ns)) hp wd1.dom
          exact pp S1 _ fp1 [p] _ ((ext.drop).grow k fr) (wd1.grow k) (wd1.sep.grow sp k fr) rt
        · cases hx
      · cases hx
    · cases hx
end
end Fx
end

section
/-! Dat4: shifts, and, min of three, sorted(set(..)) of lists; cuts with step -1. -/
namespace Fx
def oShl : Vl → Vl → Option Vl
  | .v (.int i), .v (.int j) => if 0 ≤ j ∧ j ≤ 1000000 ∧ i.natAbs < 2 ^ 64 then some (.v (.int (i * 2 ^ j.toNat))) else none
  | _, _ => none
def oShr : Vl → Vl → Option Vl
  | .v (.int i), .v (.int j) => if 0 ≤ j then some (.v (.int (i / 2 ^ j.toNat))) else none
  | _, _ => none
def oAnd1 : Vl → Vl → Option Vl
  | .v (.int i), .v (.int j) => if j = 1 then some (.v (.int (i % 2))) else none
  | _, _ => none
/-- a call of a built-in with data -/
def eArgs (f : List D → Option D) (r : M (List D)) : M Vl := fun e => (r e).then fun ds e => lift ((f ds).map .v) e
def minD2 : List D → Option D
  | [x, y] => if ([x, y].all fun a => [x, y].all fun b => D.alk a b) = true ∧ D.deps [x, y] ≤ 64 then some (if D.ltb y x = true then y else x) else none
  | _ => none
def minI3 : List D → Option D
  | [.int i, .int j, .int k] => some (.int (min i (min j k)))
  | _ => none
def maxI3 : List D → Option D
  | [.int i, .int j, .int k] => some (.int (max i (max j k)))
  | _ => none
def ins1R (x : List Int) : List (List Int) → List (List Int)
  | [] => [x]
  | y :: l => if x < y then x :: y :: l else if x = y then y :: l else y :: ins1R x l
/-- the rows, each once, in order -/
def usortR (l : List (List Int)) : List (List Int) := l.foldl (fun a x => ins1R x a) []
def sortSetL (l : List D) : Option Vl := match D.ints l with
  | some ns => if ns.length < 64 then some (.o ((usort ns).map .int)) else none
  | none => match D.introws l with
    | some rs => if rs.length < 64 then some (.o ((usortR rs).map fun r => .tup (r.map .int))) else none
    | none => none
def oSortSetL : Vl → Option Vl
  | .o l => sortSetL l
  | .v (.lst l) => sortSetL l
  | _ => none
theorem lt_or (x y : List Int) : x < y ∨ x = y ∨ y < x := by
  by_cases h : x < y
  · exact .inl h
  · by_cases h2 : y < x
    · exact .inr (.inr h2)
    · exact .inr (.inl (List.le_antisymm (List.not_lt.mp h2) (List.not_lt.mp h)))
theorem ins1R_mem (x : List Int) : ∀ (l : List (List Int)) (y : List Int), y ∈ ins1R x l ↔ y = x ∨ y ∈ l
  | [], y => by simp [ins1R]
  | z :: l, y => by
    unfold ins1R
    split
    · simp
    · split
      · rename_i h; subst h; simp
      · rw [List.mem_cons, ins1R_mem x l y, List.mem_cons]
        constructor
        · rintro (h | h | h)
          · exact .inr (.inl h)
          · exact .inl h
          · exact .inr (.inr h)
        · rintro (h | h | h)
          · exact .inr (.inl h)
          · exact .inl h
          · exact .inr (.inr h)
theorem ins1R_sorted (x : List Int) : ∀ (l : List (List Int)), l.Pairwise (· < ·) → (ins1R x l).Pairwise (· < ·)
  | [], _ => by simp [ins1R]
  | z :: l, h => by
    rw [List.pairwise_cons] at h
    unfold ins1R
    split
    · rename_i q
      rw [List.pairwise_cons, List.pairwise_cons]
      refine ⟨fun a ha => ?_, h⟩
      rcases List.mem_cons.mp ha with rfl | ha
      · exact q
      · exact List.lt_trans q (h.1 a ha)
    · rename_i q
      split
      · rw [List.pairwise_cons]; exact h
      · rename_i q2
        rw [List.pairwise_cons]
        refine ⟨fun a ha => ?_, ins1R_sorted x l h.2⟩
        rcases (ins1R_mem x l a).mp ha with rfl | ha
        · rcases lt_or a z with k | k | k
          · exact absurd k q
          · exact absurd k q2
          · exact k
        · exact h.1 a ha
theorem usortR_go : ∀ (l acc : List (List Int)), acc.Pairwise (· < ·) → (l.foldl (fun a x => ins1R x a) acc).Pairwise (· < ·) ∧ ∀ y, y ∈ l.foldl (fun a x => ins1R x a) acc ↔ y ∈ l ∨ y ∈ acc
  | [], acc, h => ⟨h, by simp⟩
  | x :: l, acc, h => by
    obtain ⟨h1, h2⟩ := usortR_go l (ins1R x acc) (ins1R_sorted x acc h)
    refine ⟨h1, fun y => ?_⟩
    rw [List.foldl_cons, h2, ins1R_mem, List.mem_cons]
    constructor
    · rintro (h | h | h)
      · exact .inl (.inr h)
      · exact .inl (.inl h)
      · exact .inr h
    · rintro ((h | h) | h)
      · exact .inr (.inl h)
      · exact .inl h
      · exact .inr (.inr h)
theorem usortR_sorted (l : List (List Int)) : (usortR l).Pairwise (· < ·) := (usortR_go l [] .nil).1
theorem usortR_mem (l : List (List Int)) (y : List Int) : y ∈ usortR l ↔ y ∈ l := by
  have := (usortR_go l [] .nil).2 y
  simpa [usortR] using this
theorem sortedR_ext : ∀ (a b : List (List Int)), a.Pairwise (· < ·) → b.Pairwise (· < ·) → (∀ y, y ∈ a ↔ y ∈ b) → a = b
  | [], [], _, _, _ => rfl
  | [], y :: b, _, _, h => by have := (h y).mpr (by simp); simp at this
  | x :: a, [], _, _, h => by have := (h x).mp (by simp); simp at this
  | x :: a, y :: b, h1, h2, h => by
    rw [List.pairwise_cons] at h1 h2
    have irr : ∀ z : List Int, ¬ z < z := fun z => List.lt_irrefl z
    have e : x = y := by
      rcases List.mem_cons.mp ((h x).mp (by simp)) with q | q
      · exact q
      · rcases List.mem_cons.mp ((h y).mpr (by simp)) with q2 | q2
        · exact q2.symm
        · exact absurd (List.lt_trans (h1.1 y q2) (h2.1 x q)) (irr x)
    subst e
    congr 1
    refine sortedR_ext a b h1.2 h2.2 fun y => ?_
    constructor
    · intro hy
      rcases List.mem_cons.mp ((h y).mp (by simp [hy])) with q | q
      · exact absurd (q ▸ h1.1 y hy) (irr x)
      · exact q
    · intro hy
      rcases List.mem_cons.mp ((h y).mpr (by simp [hy])) with q | q
      · exact absurd (q ▸ h2.1 y hy) (irr x)
      · exact q
end Fx
end

section
set_option Elab.async false
set_option linter.all false
set_option maxRecDepth 100000
set_option maxHeartbeats 4000000
/-! Wss: sorted(set(xs)), xs a list of whole numbers or of rows of whole numbers; shifts. -/
namespace Fx
open PySem PySem.Spec PyProof.Rows L2 PySem.W PySem.Calls
/-- an empty set -/
abbrev eSt (w : World) : Obj := { cls := .type "set", dict := none, data := .set #[] 0 (.fresh 0 0 (!w.params.followText "set-order")) }
section
variable {P : Program} {w : World} {A : Around} {E : Value → Shared → Prop} {s : Shared}
theorem call_set_lstI {l : Addr} {items : Array Value} (ns : List Int) {Q : Value → Shared → Prop} (hh : A.handled = none) (lst : s.heap.IsList l items) (hin : IntsAre items.toList ns) (few : ns.length + 1 < scanBound)
    (fin : ∀ (h' : Heap) (tk c : Nat), SetR w h' s.heap.objs.size (fun j => decide (j ∈ ns)) c → c ≤ ns.length → (∀ b o, s.heap.get? b = some o → h'.get? b = some o) → Q (.ref s.heap.objs.size) { s with heap := h', toks := tk }) :
    wpAny (model P w) A (call (.type "set") [.ref l]) Q E s := by
  have many : items.size = ns.length := by simpa using IntsAre.length hin
  obtain ⟨c, tl, f1⟩ := F.called_set.mro
  have f2 := F.called_set.made; have f3 := F.called_set.sub; have f4 := F.called_set.notType; have f5 := F.called_set.canCreate; have f6 := F.typeCall_set_1 (.ref l)
  refine wpAny_call (codeAny_of_tree (show wpAny _ _ (callAny (.type "set") _) _ _ _ from wpAny_pure ⟨Code.quiet_builtin _ (by decide +kernel), codeAny_builtin F.entry_type_call ?_⟩))
  rw [Around.under_plain (weight_type_call_type "set" [.ref l] []) rfl]
  repeat (any_goals (first | assumption | wp_step))
  refine codeAny_mono (code_set_led1 (.ref l) (E := E) (Q₁ := fun v t => v = .ref s.heap.objs.size ∧ t = { s with heap := s.heap.push (eSt w) }) ⟨rfl, rfl⟩) fun r t hr => ?_
  rcases r with e | fl
  · exact hr
  cases fl with
  | ret v =>
    obtain ⟨rfl, rfl⟩ := hr
    have g1 : Heap.get? (s.heap.push (eSt w)) s.heap.objs.size = some (eSt w) := Heap.get?_push_size _ rfl
    have g2 : Shared.TypeIs { s with heap := s.heap.push (eSt w) } (.ref s.heap.objs.size) "set" := ⟨_, g1, rfl⟩
    have f7 := F.called_set.init.lookup; have f8 := F.called_set.init.bind (.ref s.heap.objs.size)
    repeat (any_goals (first | assumption | wp_step))
    refine codeAny_mono (codeAny_call_builtin (R := wants (fun r t => r = .none ∧ ∃ h' tk c, t = { s with heap := h', toks := tk } ∧ SetR w h' s.heap.objs.size (fun j => decide (j ∈ ns)) c ∧ c ≤ ns.length ∧ (∀ b o, s.heap.get? b = some o → h'.get? b = some o)) E)
      F.called_set.init.plain F.entry_set_init (check_set_init_1 g2 ?_)) fun r2 t2 h2 => ?_
    · obtain ⟨⟨k1, k2, k3, k4⟩, a1, a2, n, a3⟩ := lst
      simp only at a2 a3
      subst a2 a3
      have b1 : Heap.get? (s.heap.push (eSt w)) l = some { cls := .type "list", dict := k2, data := .seq items n, slots := k4 } := Heap.get?_push_of_some _ a1
      have f9 := F.sub_list_set; have f10 := F.sub_list_frozenset
      have f11 : (Value.type "list" == Value.type "dict") = false := by decide
      have b2 : Heap.IsList (s.heap.push (eSt w)) l items := ⟨_, b1, rfl, n, rfl⟩
      unfold Builtin.«set.__init__» noKeywords Builtin.Frozenset.updateFrom
      generalize hp : pyIter = py
      wp_walk
      subst hp
      refine wpAny_pyIter_list b2 (wpAny_bind (wpAny_runValue ?_))
      have c1 : l < s.heap.objs.size := Heap.lt_size a1
      have c2 : A.in1.in1.in1.handled = none := by simp [hh]
      have c3 : l ≠ (s.heap.push (eSt w)).objs.size := by rw [Heap.size_push]; exact Nat.ne_of_lt (Nat.lt_succ_of_lt c1)
      have c4 : s.heap.objs.size ∉ [(s.heap.push (eSt w)).objs.size, l] := by
        rw [Heap.size_push, List.mem_cons, List.mem_singleton]
        rintro (q | q)
        · exact Nat.ne_of_lt (Nat.lt_succ_self _) q
        · exact Nat.ne_of_gt c1 q
      have c5 : ∀ (i : Nat) (v : Value), items[i]? = some v → ∃ k t, ns[i]? = some k ∧ v = .int k t := fun i v hv => by
        have hi : i < ns.length := by rw [← many]; exact (Array.getElem?_eq_some_iff.mp hv).1
        obtain ⟨t, rfl⟩ := PyProof.Rows.IntsAre.int_at hin i v (by rw [Array.getElem?_toList]; exact hv)
        exact ⟨ns[i], t, List.getElem?_eq_getElem hi, by rw [List.getD_eq_getElem?_getD, List.getElem?_eq_getElem hi]; rfl⟩
      refine set_update_ints ((Walks.list c2 _ l c3 items).toS) s.heap.objs.size c4 ns many few c5 (items.size - 0) 0 _ (by omega) (Nat.zero_le _) ⟨⟨_, Heap.get?_push_size _ rfl, rfl, rfl⟩, b2.push _⟩ ⟨0, Nat.le_refl 0, setR_new_at (Heap.get?_push_of_some _ g1)⟩ fun t c hm hc hS => ?_
      obtain ⟨h', x2, x3, tk, x5⟩ := t
      have y2 : x2 = s.gens := hm.gens
      have y3 : x3 = s.drawn := hm.drawn
      have y5 : x5 = s.os := hm.os
      subst y2 y3 y5
      rw [many] at hc
      refine (show wpAny _ _ _ _ _ _ from wpAny_pure (show wpAny _ _ (ret Value.none) _ _ _ from wpAny_pure ⟨rfl, h', tk, c, rfl, hS, hc, fun b o e => ?_⟩))
      have z := Heap.lt_size e
      refine hm.heap b o ?_ (Heap.get?_push_of_some _ (Heap.get?_push_of_some _ e))
      rw [List.mem_cons, List.mem_singleton, Heap.size_push]
      rintro (q | q)
      · exact Nat.ne_of_lt z q
      · exact Nat.ne_of_lt (Nat.lt_succ_of_lt z) q
    · rcases r2 with e | fl2
      · exact h2
      cases fl2 with
      | ret r =>
        obtain ⟨rfl, h', tk, c, rfl, hS, hc, hk⟩ := h2
        repeat (any_goals (first | assumption | wp_step))
        exact fin _ _ _ hS hc hk
      | _ => exact h2.elim
  | _ => exact hr.elim
end
section
variable {α β : Type}
theorem perm_map_inv {f : α → β} {l m : List β} (p : l.Perm m) : ∀ L : List α, m = L.map f → ∃ L1 : List α, L1.Perm L ∧ l = L1.map f := by
  induction p with
  | nil =>
    intro L h
    have : L = [] := by simpa using h.symm
    subst this
    exact ⟨[], .nil, rfl⟩
  | cons x _ ih =>
    intro L h
    cases L with
    | nil => simp at h
    | cons y L =>
      rw [List.map_cons, List.cons.injEq] at h
      obtain ⟨L1, h1, h2⟩ := ih L h.2
      exact ⟨y :: L1, h1.cons y, by rw [List.map_cons, h.1, h2]⟩
  | swap x y l =>
    intro L h
    match L, h with
    | [], h => simp at h
    | [_], h => simp at h
    | a :: b :: L, h =>
      simp only [List.map_cons, List.cons.injEq] at h
      refine ⟨b :: a :: L, .swap _ _ _, ?_⟩
      rw [List.map_cons, List.map_cons, h.1, h.2.1, h.2.2]
  | trans _ _ ih1 ih2 =>
    intro L h
    obtain ⟨L2, h1, h2⟩ := ih2 L h
    obtain ⟨L1, h3, h4⟩ := ih1 L2 h2
    exact ⟨L1, h3.trans h1, h4⟩
end
theorem readsAll_ints {h : Heap} : ∀ {us : List Value} {ns : List Int}, IntsAre us ns → ∃ as, ReadsAll h us (ns.map PyData.int) as
  | _, _, .nil => ⟨_, .nil⟩
  | _, _, .cons n t r => by
    obtain ⟨as, q⟩ := readsAll_ints (h := h) r
    exact ⟨_, .cons (.int n t) q⟩
theorem isT_reads {P : Program} {w : World} {h : Heap} {k : List Int} {b : Addr} (x : IsT P w h k b) : ∃ as, Reads h (.ref b) (.tuple (k.map PyData.int)) as := by
  obtain ⟨o, items, n, ho, hc, hd, hi⟩ := x
  obtain ⟨as, q⟩ := readsAll_ints (h := h) (ints_of_items hi)
  exact ⟨as, .tuple ho hc hd q⟩
theorem each_refs : ∀ L : List (Addr × List Int), EachIs (fun v (b : Addr × List Int) => v = Value.ref b.1) (L.map fun q => Value.ref q.1) L
  | [] => .nil
  | p :: L => .cons rfl (each_refs L)
theorem refs_each : ∀ {L : List (Addr × List Int)} {out : List Value}, EachIs (fun v (b : Addr × List Int) => v = Value.ref b.1) out L → out = L.map fun q => Value.ref q.1
  | _, _, .nil => rfl
  | _, _, .cons h t => by rw [h, refs_each t]; rfl
section
variable {P : Program} {w : World} {A : Around} {E : Value → Shared → Prop} {s : Shared}
theorem sorted_setD {a : Addr} {L : List (Addr × List Int)} {es : Array (Int × Value)} {ep : Nat} {t : SetTable} {Q : Value → Shared → Prop} (R : SetTR P w s.heap a L es ep t) (hh : A.handled = none) (hne : ∀ p ∈ L, p.2 ≠ []) (hu : A.units + 66 < cLine)
    (hQ : ∀ s' p (out : Array Value) (c : Nat) (L' : List (Addr × List Int)), (∀ b o, s.heap.get? b = some o → s'.heap.get? b = some o) → s'.gens = s.gens → s'.os = s.os → s.heap.objs.size ≤ p →
      s'.heap.get? p = some (seqObj "list" out c) → out.toList = L'.map (fun q => Value.ref q.1) → L'.Perm L → L'.Pairwise (fun q r => q.2 ≤ r.2) → Q (.ref p) s') :
    wpAny (model P w) A (call (.builtin "sorted") [.ref a]) Q E s := by
  obtain ⟨o, ho, hex, hd⟩ := R.ob
  have few := R.few
  have hsz := R.size
  refine call_function_entry_kw kind_sorted plain_sorted entry_sorted (args_sorted1 _) ?_
  unfold Builtin.«sorted»
  refine wpAny_bind (m := checkCount "sorted" 1 1 _) (wpAny_pure (wpAny_bind (collect_set (A := A.in1) hh ⟨o, ho, hex.1, hd⟩ R.fits (by unfold scanBound; omega) R.tab.ris R.led fun s1 vs k1 hz g1 o1 pm => ?_)))
  have er : es.toList.map (·.2) = L.map fun q => Value.ref q.1 := by
    rw [R.rows]
    unfold L2.rowsOf
    rw [List.map_map]
    rfl
  rw [er] at pm
  obtain ⟨L1, p1, rfl⟩ := perm_map_inv pm L rfl
  have len1 : L1.length < 64 := by rw [p1.length_eq]; exact few
  refine wpAny_bind (wpAny_newList ?_ (by rw [List.length_map, sizeLine_eq]; omega))
  generalize hvs : L1.map (fun q => Value.ref q.1) = vs
  have lv : vs.length = L1.length := by rw [← hvs, List.length_map]
  have at1 : (s1.heap.push (seqObj "list" vs.toArray 0)).get? s1.heap.objs.size = some (seqObj "list" vs.toArray 0) := Heap.get?_push_size _ rfl
  have keep : ∀ b u, s.heap.get? b = some u → (s1.heap.push (seqObj "list" vs.toArray 0)).get? b = some u ∧ b ≠ s1.heap.objs.size := fun b u e => ⟨Heap.get?_push_of_some _ (k1 b u e), Nat.ne_of_lt (Heap.lt_size (k1 b u e))⟩
  have keepS : ∀ b u, s.heap.get? b = some u → (sortingHeap (s1.heap.push (seqObj "list" vs.toArray 0)) s1.heap.objs.size vs).get? b = some u := fun b u e => sortingHeap_old (keep b u e).2 (keep b u e).1
  have each : EachIs (fun v (b : Addr × List Int) => ∃ as, Reads (sortingHeap (s1.heap.push (seqObj "list" vs.toArray 0)) s1.heap.objs.size vs) v (PyData.tuple (b.2.map PyData.int)) as) vs L1 := by
    rw [← hvs]
    have gen : ∀ M : List (Addr × List Int), (∀ q ∈ M, q ∈ L) → EachIs (fun v (b : Addr × List Int) => ∃ as, Reads (sortingHeap (s1.heap.push (seqObj "list" vs.toArray 0)) s1.heap.objs.size vs) v (PyData.tuple (b.2.map PyData.int)) as) (M.map fun q => Value.ref q.1) M := by
      intro M
      induction M with
      | nil => intro _; exact .nil
      | cons q M ih =>
        intro hM
        exact .cons (isT_reads (isT_keep (R.tup q (hM q (by simp))) keepS)) (ih fun r hr => hM r (by simp [hr]))
    have := gen L1 fun q hq => p1.mem_iff.mp hq
    rw [hvs] at this ⊢
    exact this
  have er0 : EachIs (fun v (b : Addr × List Int) => v = Value.ref b.1) vs L1 := by rw [← hvs]; exact each_refs L1
  have hal : AllAlike (L1.map fun b => PyData.tuple (b.2.map PyData.int)) := AllAlike.of fun r r' => by simp only [alike]; exact alike_ints r.2 r'.2
  have hk : Sortable (L1.map fun b => PyData.tuple (b.2.map PyData.int)) := .inl fun d hd => by
    obtain ⟨b, hb, rfl⟩ := List.mem_map.mp hd
    cases h : b.2 with
    | nil => exact absurd h (hne _ (p1.mem_iff.mp hb))
    | cons x r => exact ⟨_, _, rfl⟩
  have hb : ∀ b : Addr × List Int, b ∈ L1 → A.in1.in1.units + (PyData.tuple (b.2.map PyData.int)).depth < cLine := fun b _ => by
    have : A.in1.in1.units = A.units + 2 := rfl
    rw [this]
    simp only [PyData.depth, depth_ints]; omega
  have hd : dataLe false (fun b : Addr × List Int => PyData.tuple (b.2.map PyData.int)) = fun a b => decide (a.2 ≤ b.2) := by
    funext x y
    exact congrFun (congrFun dataLe_tis x.2) y.2
  have S1 := SortsAt.data (prog := P) (w := w) (A := A.in1.in1) (s := { s1 with heap := sortingHeap (s1.heap.push (seqObj "list" vs.toArray 0)) s1.heap.objs.size vs }) (each_map (fun b : Addr × List Int => PyData.tuple (b.2.map PyData.int)) each) hal hk (bound_map hb)
  refine wpAny_bind (wpAny_holding (wpAny_call_entry_kw slot_list_sort ⟨_, at1, rfl⟩ entry_list_sort ?body (args_list_sort _)))
  case body =>
    show wpAny (model P w) A.in1.in1 (Builtin.«list.sort» ⟨[.ref s1.heap.objs.size], []⟩) _ _ _
    refine list_sort_vals (s := { s1 with heap := s1.heap.push (seqObj "list" vs.toArray 0) }) at1 S1 (by rw [lv, sizeLine_eq]; omega) ⟨_, rfl, ?_⟩
    have e2 := sortVals_data false er0 each hal
    rw [hd] at e2
    have e3 := refs_each e2
    obtain ⟨c, hc⟩ := sortedHeap_at (vs := vs) (out := (sortVals (dataKind (sortingHeap (s1.heap.push (seqObj "list" vs.toArray 0)) s1.heap.objs.size vs) (L1.map fun b => PyData.tuple (b.2.map PyData.int))) false vs vs).toArray) at1
    refine wpAny_pure ⟨_, rfl, hQ _ s1.heap.objs.size _ c _ (fun b u e => ?_) g1 o1 hz hc (by rw [List.toList_toArray]; exact e3) ((List.mergeSort_perm _ _).trans p1) ?_⟩
    · have q := Heap.lt_size (k1 b u e)
      refine (sortedHeap_old (keep b u e).2 (by rw [size_push']; exact Nat.lt_succ_of_lt q)).trans (keep b u e).1
    · have := List.pairwise_mergeSort (le := fun (a b : Addr × List Int) => decide (a.2 ≤ b.2)) (fun a b c h1 h2 => by simp at *; exact List.le_trans h1 h2) (fun a b => by simp; exact List.le_total _ _) L1
      exact this.imp fun h => by simpa using h
end
section
variable {X : Cx} {W : WX} {a : Expr} {ta : TE} {m n : M Vl} {b : Expr} {pos : Pos}
def tSSL (K : PySem.W.Frag) (ta : TE) : TE := fun σ H Q => ta σ H fun x H1 => ∃ l : Addr, x = .ref l ∧
  ((∃ ns : List Int, SqL K H1 l (ns.map V.int) ∧ ns.length < 64 ∧ ∀ p : Addr, H1 p = none → Q (.ref p) (upd H1 p (.lst ((usort ns).map V.int)))) ∨
   (∃ ks : List (Addr × List Int), SqL K H1 l (ks.map fun p => V.ref p.1) ∧ (∀ p ∈ ks, SqT K H1 p.1 (p.2.map V.int) ∧ p.2 ≠ []) ∧ ks.length < 64 ∧
     ∀ (p : Addr) (L : List (Addr × List Int)), H1 p = none → (∀ q ∈ L, q ∈ ks) → L.map (·.2) = usortR (ks.map (·.2)) → Q (.ref p) (upd H1 p (.lst (L.map fun q => V.ref q.1)))))
theorem pe_ssl {p p2 q pos : Pos} (hc : X.calm = true) (hu : X.A.units + 66 < cLine) (hg : Gl X "sorted") (hm : X.mg "sorted" = none) (hg2 : Gl X "set") (hm2 : X.mg "set" = none) (ha : PE X a ta)
    (na : starEach [a] X.env = (false, eval a X.env) :: starEach [] X.env := by rfl) : PE X (.Call (.Name "sorted" p) [.Call (.Name "set" p2) [a] [] q] [] pos) (tSSL X.K ta) := by
  refine ⟨fun pins s σ H Q I h => ?_⟩
  refine Call_ (ld_blt I hg hm boot_sorted ?_)
  refine PyProof.Rows.callWith_builtin1 (PyProof.Rows.args_cons ?_ rfl) rfl rfl
  refine Call_ (ld_blt I hg2 hm2 PyProof.Rows.boot_set ?_)
  refine PyProof.Rows.callWith_type1 (PyProof.Rows.args_cons (thn (ha.run pins s σ H _ I h) fun v s1 ⟨x, H1, I1, r1, q1⟩ => PyProof.Rows.args_nil ?_) na) na rfl
  obtain ⟨l, rfl, q1⟩ := q1
  cases r1
  have hd := I1.ok.hd hc
  rcases q1 with ⟨ns, hq, h64, q1⟩ | ⟨ks, hq, hk, h64, q1⟩
  · obtain ⟨its, r, pl, hz⟩ := I1.list hq
    have hi : IntsAre its.toArray.toList ns := ints_of_vals r
    refine call_set_lstI ns hd pl.isList hi (by unfold scanBound; omega) fun h' tk c R1 hcn k => ?_
    refine PyProof.Rows.args_nil ?_
    have I2 : Inv X pins σ H1 { s1 with heap := h', toks := tk } := I1.kept k
    refine sorted_set (s := { s1 with heap := h', toks := tk }) R1 hd (by omega) fun s' p out c2 ns' k2 g o hp hg' hi' hs hm' hl => ?_
    have e0 : ns' = usort ns := sorted_ext _ _ hs (usort_sorted ns) fun y => by rw [hm' y, usort_mem]; simp
    subst e0
    have hlen : ((usort ns).map V.int).length ≤ sizeLine := by rw [List.length_map, hl, sizeLine_eq]; omega
    have hn : H1 p = none := I2.hok.fresh hp
    have J : Inv X pins σ (upd H1 p (.lst ((usort ns).map V.int))) { ({ s1 with heap := h', toks := tk } : Shared) with heap := s'.heap, gens := s'.gens, drawn := s'.drawn, toks := s'.toks } :=
      I2.call (ch := []) (Un.laid k2 hp hn) (I2.hok.laid k2 hp ⟨hlen, out.toList, c2, vals_of_ints hi', hg'⟩) (by rw [g]; exact I2.bare) (fun _ z => nomatch z)
    have e : s' = { ({ s1 with heap := h', toks := tk } : Shared) with heap := s'.heap, gens := s'.gens, drawn := s'.drawn, toks := s'.toks } := by
      cases s'
      cases s1
      cases o
      rfl
    rw [e]
    exact ⟨.ref p, _, J, rfl, q1 p hn⟩
  · obtain ⟨its, r, pl, hz⟩ := I1.list hq
    refine call_set_tups (P := X.prog) (w := X.w) ks hd pl.isList (by simpa using refs_of_vals r) (fun p hp => I1.isT (hk p hp).1) h64 (by omega) fun h' tk L es ep t R g0 k => ?_
    refine PyProof.Rows.args_nil ?_
    have I2 : Inv X pins σ H1 { s1 with heap := h', toks := tk } := I1.kept k
    have sub : ∀ q ∈ L, q ∈ ks := fun q hq => List.mem_of_mem_take (g0.sub q hq)
    have all : ∀ q ∈ ks, q.2 ∈ L.map (·.2) := fun q hq => g0.all q (by rw [List.take_length]; exact hq)
    have nd := R.nd
    refine sorted_setD (s := { s1 with heap := h', toks := tk }) R hd (fun q hq => (hk q (sub q hq)).2) hu fun s' p out c2 L' k2 g o hp hg' ho hperm hpw => ?_
    have hL : L'.length < 64 := by rw [hperm.length_eq]; exact R.few
    have hlen : (L'.map fun q => V.ref q.1).length ≤ sizeLine := by rw [List.length_map, sizeLine_eq]; omega
    have hn : H1 p = none := I2.hok.fresh hp
    have hv : Vals (L'.map fun q => V.ref q.1) out.toList := by rw [ho]; exact vals_of_refs L'
    have J : Inv X pins σ (upd H1 p (.lst (L'.map fun q => V.ref q.1))) { ({ s1 with heap := h', toks := tk } : Shared) with heap := s'.heap, gens := s'.gens, drawn := s'.drawn, toks := s'.toks } :=
      I2.call (ch := []) (Un.laid k2 hp hn) (I2.hok.laid k2 hp ⟨hlen, out.toList, c2, hv, hg'⟩) (by rw [g]; exact I2.bare) (fun _ z => nomatch z)
    have e : s' = { ({ s1 with heap := h', toks := tk } : Shared) with heap := s'.heap, gens := s'.gens, drawn := s'.drawn, toks := s'.toks } := by
      cases s'
      cases s1
      cases o
      rfl
    have nd' : (L'.map (·.2)).Nodup := (hperm.map (·.2)).nodup_iff.mpr nd
    have e2 : L'.map (·.2) = usortR (ks.map (·.2)) := by
      refine sortedR_ext _ _ ?_ (usortR_sorted _) fun y => ?_
      · rw [List.pairwise_map]
        rw [List.Nodup, List.pairwise_map] at nd'
        have both := hpw.and nd'
        refine both.imp fun h => ?_
        rcases lt_or _ _ with z | z | z
        · exact z
        · exact absurd z h.2
        · exact absurd z (List.not_lt.mpr h.1)
      · rw [usortR_mem]
        constructor
        · intro hy
          obtain ⟨q, hq, rfl⟩ := List.mem_map.mp hy
          exact List.mem_map.mpr ⟨q, sub q (hperm.mem_iff.mp hq), rfl⟩
        · intro hy
          obtain ⟨q, hq, rfl⟩ := List.mem_map.mp hy
          exact (hperm.map (·.2)).mem_iff.mpr (all q hq)
    rw [e]
    exact ⟨.ref p, _, J, rfl, q1 p L' hn (fun q hq => sub q (hperm.mem_iff.mp hq)) e2⟩
theorem tup_ref {K : PySem.W.Frag} {S : SP'} {H : Hp} {r : List Int} {v : V} (h : rep K S H (tiD r) v) : ∃ a, v = .ref a ∧ SqT K H a (r.map V.int) := by
  unfold tiD rep at h
  obtain ⟨a, vs, rfl, h1, h2⟩ := h
  have e : D.ints (r.map D.int) = some r := by
    clear h2
    induction r with
    | nil => rfl
    | cons x r ih => rw [List.map_cons]; simp only [D.ints, ih]; rfl
  rw [reps_intsS e h2] at h1
  exact ⟨a, rfl, h1.sq⟩
theorem rows_refs {K : PySem.W.Frag} {S : SP'} {H : Hp} : ∀ {rs : List (List Int)} {xs : List V}, reps K S H (rs.map tiD) xs → ∃ ks : List (Addr × List Int), xs = (ks.map fun p => V.ref p.1) ∧ ks.map (·.2) = rs ∧ ∀ p ∈ ks, SqT K H p.1 (p.2.map V.int) ∧ rep K S H (tiD p.2) (V.ref p.1)
  | [], xs, h => by
    unfold reps at h
    subst h
    exact ⟨[], rfl, rfl, by simp⟩
  | r :: rs, xs, h => by
    rw [List.map_cons] at h
    unfold reps at h
    obtain ⟨v, ys, rfl, h1, h2⟩ := h
    obtain ⟨ks, rfl, e2, h3⟩ := rows_refs h2
    obtain ⟨a, rfl, h4⟩ := tup_ref h1
    refine ⟨(a, r) :: ks, rfl, by rw [List.map_cons, e2], fun p hp => ?_⟩
    rcases List.mem_cons.mp hp with rfl | hp
    · exact ⟨h4, h1⟩
    · exact h3 p hp
theorem refs_rows {K : PySem.W.Frag} {S : SP'} {H : Hp} : ∀ (L : List (Addr × List Int)), (∀ p ∈ L, rep K S H (tiD p.2) (V.ref p.1)) → reps K S H ((L.map (·.2)).map tiD) (L.map fun p => V.ref p.1)
  | [], _ => by simp [reps]
  | p :: L, h => by
    rw [List.map_cons, List.map_cons, List.map_cons]
    exact reps.cons (h p (by simp)) (refs_rows L fun q hq => h q (by simp [hq]))
theorem de_ssetL {p p2 q pos : Pos} (hc : X.calm = true) (hu : X.A.units + 66 < cLine) (ha : DP X W a m) (hm : X.mg "sorted" = none) (hm2 : X.mg "set" = none) (hg : Gl X "sorted" := by rfl) (hg2 : Gl X "set" := by rfl)
    (na : starEach [a] X.env = (false, eval a X.env) :: starEach [] X.env := by rfl) : DE X W (.Call (.Name "sorted" p) [.Call (.Name "set" p2) [a] [] q] [] pos) (e1 oSortSetL m) := by
  refine ⟨PEm (pe_ssl hc hu hg hm hg2 hm2 ha.p na) fun σ H Q h => ?_⟩
  refine TR.bind (R := RP X.K) (R' := repV X.K) (k := fun x e => lift (oSortSetL x) e) (Q := Q) h fun S e fp S1 H1 e1 fp1 fx x v wd ext wd1 sep1 rx pp => ?_
  cases hx : oSortSetL x with
  | none => rw [hx] at pp; exact pp.elim
  | some y =>
    rw [hx] at pp
    obtain ⟨l, a0, vs, hl, rfl, h2, h3⟩ : ∃ l a vs, sortSetL l = some y ∧ v = .ref a ∧ SqL X.K H1 a vs ∧ reps X.K S1 H1 l vs := by
      cases x with
      | v d =>
        cases d with
        | lst l =>
          obtain ⟨_, a, vs, h1, h2, h3⟩ := rx
          exact ⟨l, a, vs, hx, h1, h2, h3⟩
        | _ => cases hx
      | o l =>
        obtain ⟨a, vs, h1, h2, h3, h4⟩ := rx
        exact ⟨l, a, vs, hx, h1, .inl (.inl h3), h4⟩
      | _ => cases hx
    refine ⟨a0, rfl, ?_⟩
    unfold sortSetL at hl
    split at hl
    · rename_i ns hns
      split at hl
      · rename_i h64
        cases hl
        have e0 := reps_intsS hns h3
        subst e0
        refine .inl ⟨ns, h2, h64, fun p hp => ?_⟩
        obtain ⟨k, fr, sp, rt⟩ := fresh_lst (ints_repsS (K := X.K) (S := S1) (H := H1) (usort ns)) hp wd1.dom
        exact pp S1 _ fp1 [p] _ ((ext.drop).grow k fr) (wd1.grow k) (wd1.sep.grow sp k fr) rt
      · cases hl
    · split at hl
      · rename_i rs hrs
        split at hl
        · rename_i h64
          cases hl
          obtain ⟨rfl, hne⟩ := tis_of hrs
          obtain ⟨ks, rfl, e2, h4⟩ := rows_refs h3
          refine .inr ⟨ks, h2, fun p hp => ⟨(h4 p hp).1, hne _ (by rw [← e2]; exact List.mem_map.mpr ⟨p, hp, rfl⟩)⟩, by rw [← e2, List.length_map] at h64; exact h64, fun p L hp hL e3 => ?_⟩
          have r5 := refs_rows (K := X.K) (S := S1) (H := H1) L fun q hq => (h4 q (hL q hq)).2
          rw [e3, e2] at r5
          obtain ⟨k, fr, sp, rt⟩ := fresh_lst r5 hp wd1.dom
          exact pp S1 _ fp1 [p] _ ((ext.drop).grow k fr) (wd1.grow k) (wd1.sep.grow sp k fr) rt
        · cases hl
      · cases hl
/-! ### shifts -/
theorem ok_shl {K : PySem.W.Frag} : Op2 K (repV K) (repV K) oShl (rI CPow fun i j => .int (i * 2 ^ j.toNat)) :=
  ok_int2 (fun i j => if 0 ≤ j ∧ j ≤ 1000000 ∧ i.natAbs < 2 ^ 64 then some (.int (i * 2 ^ j.toNat)) else none) (fun i j d e K S H => by
      split at e
      · rename_i hd
        cases e; exact ⟨_, rep_int _, fun H Q q => ⟨i, j, rfl, rfl, hd, q⟩⟩
      · cases e) fun x y z e => by
    unfold oShl at e
    split at e
    · split at e
      · cases e; exact ⟨_, _, _, rfl, rfl, if_pos (by assumption), rfl⟩
      · cases e
    · cases e
theorem ok_shr {K : PySem.W.Frag} : Op2 K (repV K) (repV K) oShr (rI (fun _ j => 0 ≤ j) fun i j => .int (i / 2 ^ j.toNat)) :=
  ok_int2 (fun i j => if 0 ≤ j then some (.int (i / 2 ^ j.toNat)) else none) (fun i j d e K S H => by
      split at e
      · rename_i hd
        cases e; exact ⟨_, rep_int _, fun H Q q => ⟨i, j, rfl, rfl, hd, q⟩⟩
      · cases e) fun x y z e => by
    unfold oShr at e
    split at e
    · split at e
      · cases e; exact ⟨_, _, _, rfl, rfl, if_pos (by assumption), rfl⟩
      · cases e
    · cases e
theorem ok_and1 {K : PySem.W.Frag} : Op2 K (repV K) (repV K) oAnd1 (rI0 fun i j => .int (Builtin.bitAnd i j)) :=
  ok_int2 (fun i j => if j = 1 then some (.int (i % 2)) else none) (fun i j d e K S H => by
      split at e
      · rename_i hd
        subst hd
        cases e
        refine ⟨_, rep_int _, fun H Q q => ⟨i, 1, rfl, rfl, ?_⟩⟩
        have := kbt_mask i 1
        have e1 : (2 : Int) ^ 1 - 1 = 1 := by decide
        have e2 : (2 : Int) ^ 1 = 2 := by decide
        rw [e1, e2] at this
        show Q (V.int (Builtin.bitAnd i 1)) H
        rw [this]
        exact q
      · cases e) fun x y z e => by
    unfold oAnd1 at e
    split at e
    · split at e
      · cases e; exact ⟨_, _, _, rfl, rfl, if_pos (by assumption), rfl⟩
      · cases e
    · cases e
theorem de_shl (ha : DE X W a m) (hb : DE X W b n) : DE X W (.BinOp a .LShift b pos) (e2 oShl m n) := de_op op_shl ok_shl ha hb
theorem de_shr (ha : DE X W a m) (hb : DE X W b n) : DE X W (.BinOp a .RShift b pos) (e2 oShr m n) := de_op op_shr ok_shr ha hb
theorem de_and1 (ha : DE X W a m) (hb : DE X W b n) : DE X W (.BinOp a .BitAnd b pos) (e2 oAnd1 m n) := de_op op_and ok_and1 ha hb
end
end Fx
end

section
set_option Elab.async false
set_option linter.all false
set_option maxRecDepth 100000
set_option maxHeartbeats 4000000
/-! Wmt: min of two data, min and max of three whole numbers. -/
namespace Fx
open PySem PySem.Spec PyProof.Rows L2 PySem.W PySem.Calls
section
variable {prog : Program} {w : World} {A : Around} {E : Value → Shared → Prop} {s : Shared}
theorem min_two_data {a b : Value} {x y : PyData} {as bs : List Addr} {Q : Value → Shared → Prop} (hh : A.handled = none) (ra : Reads s.heap a x as) (rb : Reads s.heap b y bs) (al : PySem.W.AlikeAll [x, y]) (hu : A.units + 1 + PyData.depthAll [x, y] < cLine)
    (fin : ∀ h' tk, (∀ b o, s.heap.get? b = some o → h'.get? b = some o) → Q (if dataLt y x = true then b else a) { s with heap := h', toks := tk }) :
    wpAny (model prog w) A (call (.builtin "min") [a, b]) Q E s := by
  refine call_function_tree F.kind_min F.plain_min F.entry_min (F.args_min2 _ _) ?_
  show wpAny _ A.in1 (Builtin.Builtins.bindParams "min" ["key", "default"] 0 ⟨[], []⟩ >>= _) _ _ s
  refine wpAny_bind (wpAny_of_eq (show Builtin.Builtins.bindParams "min" ["key", "default"] 0 ⟨[], []⟩ = pure [none, none] from rfl) (show wpAny _ A.in1 (newTuple [a, b] >>= _) _ _ s from wpAny_bind (wpAny_newObj_type ?_)))
  generalize hs1 : ({ s with heap := s.heap.push { cls := Value.type "tuple", data := Data.seq [a, b].toArray } } : Shared) = s1
  have e1 : s1.heap = s.heap.push { cls := Value.type "tuple", data := Data.seq [a, b].toArray } := by rw [← hs1]
  have ht : s1.heap.IsTuple s.heap.objs.size #[a, b] := by rw [e1]; exact ⟨_, Heap.get?_push_size _ rfl, rfl, 0, rfl⟩
  have old : ∀ c o, s.heap.get? c = some o → s1.heap.get? c = some o := fun c o e => by rw [e1]; exact Heap.get?_push_of_some _ e
  have hr : ReadsAll s1.heap (#[a, b] : Array Value).toList [x, y] (as ++ (bs ++ [])) := .cons (reads_keeps old ra) (.cons (reads_keeps old rb) .nil)
  refine wpAny_bind (iter_tupleW (A := A.in1) (s := s1) hh ht fun s2 e2 W st hfp hw hk => wpAny_bind (wpAny_newObj_type ?_))
  have hS : s2.heap.objs.size ∉ [s1.heap.objs.size, s.heap.objs.size] := fun hm => Nat.lt_irrefl _ (hfp _ hm)
  have hname : (toString "min" ++ toString ".loop" : String) = "min.loop" := by decide
  rw [hname]
  refine wpAny_pure ⟨plainId_quiet F.plain_min_loop _, codeAny_min_loop_firstH W s1.heap hw _ (cmpIn_lt (A := A.in1) hr al (by show A.units + 1 + _ < _; exact hu)) s2.heap.objs.size hS (fresh_in hk) _ (show 0 < 2 by decide) (fun c o e => Heap.get?_push_of_some _ (hk c o e)) (W.frame 0 s2 _ s2.toks st (Nat.le_refl _) fun c _ o e => Heap.get?_push_of_some _ e) (Heap.get?_push_size _ rfl) fun v s' hP hm => ?_⟩
  obtain ⟨h', tk, e3, hk'⟩ := moved_old e2 rfl (Moved.drop_new (tk := s2.toks) hm (Nat.le_refl _))
  subst e3
  have hv : v = if dataLt y x = true then b else a := by
    have hP' : (#[a, b] : Array Value)[argBest (fun i j => dataLt ([x, y].getD i .none) ([x, y].getD j .none)) 1]? = some v := hP
    have e0 : ([x, y].getD 0 PyData.none) = x := rfl
    have e1 : ([x, y].getD 1 PyData.none) = y := rfl
    by_cases h : dataLt y x = true
    · rw [if_pos h]
      have : argBest (fun i j => dataLt ([x, y].getD i .none) ([x, y].getD j .none)) 1 = 1 := by
        simp only [argBest, e0, e1, h, if_true]
      rw [this] at hP'
      simpa using hP'.symm
    · rw [if_neg h]
      have : argBest (fun i j => dataLt ([x, y].getD i .none) ([x, y].getD j .none)) 1 = 0 := by
        simp only [argBest, e0, e1]
        rw [if_neg h]
      rw [this] at hP'
      simpa using hP'.symm
  rw [hv, ← hs1]
  exact fin h' tk fun c o e => hk' c o (old c o e)
end
def rAr (K : PySem.W.Frag) (f : List D → Option D) : List V → Hp → VK → Prop := fun vs H Q => ∃ ds S d, reps K S H ds vs ∧ f ds = some d ∧ ∀ w, rep K S H d w → Q w H
section
variable {X : Cx} {W : WX} {a : Expr} {es : List Expr} {pos : Pos} {r : M (List D)}
theorem args_tr {f : List D → Option D} {σ : L2.St} {H : Hp} {Q : VK} (h : TR X.K X.mg W (repV X.K) (eArgs f r) σ H Q) : TR X.K X.mg W (fun S H l fx vs => fx = [] ∧ reps X.K S H l vs) r σ H fun vs H1 => rAr X.K f vs H1 Q := by
  refine TR.bind (k := fun ds e => lift ((f ds).map Vl.v) e) h fun S e fp S1 H1 e1 fp1 fx ds vs wd ext wd1 sep1 rx p => ?_
  obtain ⟨rfl, rx⟩ := rx
  cases q : f ds with
  | none => rw [q] at p; exact p.elim
  | some d =>
    rw [q] at p
    exact ⟨ds, S1, d, rx, q, fun w hw => p S1 H1 fp1 [] w ext wd1 sep1 ⟨rfl, hw⟩⟩
theorem de_bN {id : String} {f : List D → Option D} {x : Str} {p : Pos} (hc : CallR X (.builtin id) (rAr X.K f)) (ha : DA X W (a :: es) r) (hm : X.mg x = none) (hv : bootBuiltins x = some (.builtin id)) (hg : Gl X x := by rfl) (hn : x ≠ "__name__" := by decide) (hdb : (x == ("__debug__" : Str)) = false := by decide)
    (he : starEach (a :: es) X.env = (false, eval a X.env) :: starEach es X.env := by rfl) (hpl : (backTo pos (starEach es X.env)).any (·.1) = false := by rfl) : DE X W (.Call (.Name x p) (a :: es) [] pos) (eArgs f r) :=
  ⟨PEm (pe_callB hc hg hm hv ha.p hn hdb he hpl) fun σ H Q h => args_tr h⟩
/-! ### min of two data -/
theorem call_minD2 (hc : X.calm = true) (hu : X.A.units + 66 < cLine) : CallR X (.builtin "min") (rAr X.K minD2) := by
  intro pins s σ H xs us Q I r h
  obtain ⟨ds, S, d, hr, hf, q⟩ := h
  unfold minD2 at hf
  split at hf
  · rename_i x y
    split at hf
    · rename_i hq
      cases hf
      obtain ⟨h1, h2⟩ := hq
      unfold reps at hr
      obtain ⟨v, vs, rfl, r1, hr⟩ := hr
      unfold reps at hr
      obtain ⟨v2, vs2, rfl, r2, hr⟩ := hr
      unfold reps at hr
      subst hr
      obtain ⟨u, u2, rfl, l1, l2⟩ := vals2 r
      obtain ⟨as, d1⟩ := Dp.reads I _ v u r1.dp l1
      obtain ⟨bs, d2⟩ := Dp.reads I _ v2 u2 r2.dp l2
      have hall : ∀ a ∈ [x, y], ∀ b ∈ [x, y], D.alk a b = true := fun a ha b hb => List.all_eq_true.mp (List.all_eq_true.mp h1 a ha) b hb
      have hA := alike_pys hall
      have hd : X.A.units + 1 + PyData.depthAll (D.pys [x, y]) < cLine := by rw [pys_dep]; omega
      refine min_two_data (I.ok.hd hc) d1 d2 hA hd fun h' tk k => ?_
      rw [py_ltb y x (hall y (by simp) x (by simp))]
      by_cases hl : D.ltb y x = true
      · rw [if_pos hl]
        rw [if_pos hl] at q
        exact ⟨v2, H, I.kept k, l2, q _ r2⟩
      · rw [if_neg hl]
        rw [if_neg hl] at q
        exact ⟨v, H, I.kept k, l1, q _ r1⟩
    · cases hf
  · cases hf
theorem reps_cons {K : PySem.W.Frag} {S : SP'} {H : Hp} {d : D} {l : List D} {xs : List V} (h : reps K S H (d :: l) xs) : ∃ v vs, xs = v :: vs ∧ rep K S H d v ∧ reps K S H l vs := by
  unfold reps at h
  exact h
theorem valsT {x y z : V} {us : List Value} (r : Vals [x, y, z] us) : ∃ u u2 u3, us = [u, u2, u3] ∧ RelV x u ∧ RelV y u2 ∧ RelV z u3 := by
  cases r with
  | cons r1 r2 =>
    obtain ⟨u, u2, rfl, r3, r4⟩ := vals2 r2
    exact ⟨_, u, u2, rfl, r1, r3, r4⟩
theorem call_min3 (hc : X.calm = true) : CallR X (.builtin "min") (rAr X.K minI3) := by
  intro pins s σ H xs us Q I r h
  obtain ⟨ds, S, d, hr, hf, q⟩ := h
  unfold minI3 at hf
  split at hf
  · rename_i i j k
    cases hf
    obtain ⟨v, vs, rfl, r1, hr⟩ := reps_cons hr
    obtain ⟨v2, vs2, rfl, r2, hr⟩ := reps_cons hr
    obtain ⟨v3, vs3, rfl, r3, hr⟩ := reps_cons hr
    unfold reps at hr
    subst hr
    unfold rep at r1 r2 r3
    subst r1 r2 r3
    obtain ⟨u, u2, u3, rfl, ⟨t, rfl⟩, ⟨t2, rfl⟩, ⟨t3, rfl⟩⟩ := valsT r
    refine min_three_ints (I.ok.hd hc) fun h' tk kk => ⟨_, H, I.kept kk, ?_, q _ (rep_int _)⟩
    by_cases h1 : j < i
    · rw [if_pos h1]
      by_cases h2 : k < j
      · rw [if_pos h2]; exact ⟨_, by rw [show min i (min j k) = k by omega]⟩
      · rw [if_neg h2]; exact ⟨_, by rw [show min i (min j k) = j by omega]⟩
    · rw [if_neg h1]
      by_cases h2 : k < i
      · rw [if_pos h2]; exact ⟨_, by rw [show min i (min j k) = k by omega]⟩
      · rw [if_neg h2]; exact ⟨_, by rw [show min i (min j k) = i by omega]⟩
  · cases hf
theorem call_max3 (hc : X.calm = true) : CallR X (.builtin "max") (rAr X.K maxI3) := by
  intro pins s σ H xs us Q I r h
  obtain ⟨ds, S, d, hr, hf, q⟩ := h
  unfold maxI3 at hf
  split at hf
  · rename_i i j k
    cases hf
    obtain ⟨v, vs, rfl, r1, hr⟩ := reps_cons hr
    obtain ⟨v2, vs2, rfl, r2, hr⟩ := reps_cons hr
    obtain ⟨v3, vs3, rfl, r3, hr⟩ := reps_cons hr
    unfold reps at hr
    subst hr
    unfold rep at r1 r2 r3
    subst r1 r2 r3
    obtain ⟨u, u2, u3, rfl, ⟨t, rfl⟩, ⟨t2, rfl⟩, ⟨t3, rfl⟩⟩ := valsT r
    refine max_three_ints (I.ok.hd hc) fun h' tk kk => ⟨_, H, I.kept kk, ?_, q _ (rep_int _)⟩
    by_cases h1 : j > i
    · rw [if_pos h1]
      by_cases h2 : k > j
      · rw [if_pos h2]; exact ⟨_, by rw [show max i (max j k) = k by omega]⟩
      · rw [if_neg h2]; exact ⟨_, by rw [show max i (max j k) = j by omega]⟩
    · rw [if_neg h1]
      by_cases h2 : k > i
      · rw [if_pos h2]; exact ⟨_, by rw [show max i (max j k) = k by omega]⟩
      · rw [if_neg h2]; exact ⟨_, by rw [show max i (max j k) = i by omega]⟩
  · cases hf
end
end Fx
end

section
/-! Dat5: dicts of one's own whose keys are whole numbers or words. -/
namespace Fx
def sameK : D → D → Bool
  | .int i, .int j => decide (i = j)
  | .str a, .str b => decide (a = b)
  | _, _ => false
def isK : D → Bool
  | .int _ => true
  | .str _ => true
  | _ => false
def dGet (l : List (D × D)) (k : D) : Option D := (l.find? fun p => sameK p.1 k).map (·.2)
/-- in its place, or at the end -/
def dPut (l : List (D × D)) (k v : D) : List (D × D) := if (l.any fun p => sameK p.1 k) = true then l.map (fun p => if sameK p.1 k = true then (p.1, v) else p) else l ++ [(k, v)]
/-- d[m], d at place k -/
def eDget (k : Nat) (m : M Vl) : M Vl := fun e => match e[k]? with
  | some (some (.dc _)) => (m e).then fun y e => (match e[k]?, y with
    | some (some (.dc l)), .v d => if isK d then lift ((dGet l d).map .v) e else .bad
    | _, _ => .bad)
  | _ => .bad
/-- m in d, m not in d -/
def kDin (neg : Bool) (k : Nat) (y : Vl) : M Vl := fun e => match e[k]?, y with
  | some (some (.dc l)), .v d => if isK d then .ok (.v (.bl (if neg then !(dGet l d).isSome else (dGet l d).isSome))) e else .bad
  | _, _ => .bad
def eDin (neg : Bool) (k : Nat) (m : M Vl) : M Vl := fun e => (m e).then (kDin neg k)
/-- d[m] = .. -/
def gDput (k : Nat) (m : M Vl) : D → En → Option En := fun v e => match e[k]? with
  | some (some (.dc _)) => (match m e with
    | .ok (.v d) e1 => (match e1[k]? with
      | some (some (.dc l)) => if isK d = true ∧ l.length < lim then some (e1.set k (some (.dc (dPut l d v)))) else none
      | _ => none)
    | _ => none)
  | _ => none
def pairsD : List D → Option (List (D × D))
  | [] => some []
  | a :: b :: r => if isK a then (pairsD r).map ((a, b) :: ·) else none
  | _ => none
/-- {k: v, ..} -/
def eDdisp (r : M (List D)) : M Vl := fun e => match r e with
  | .ok ds e1 => (match pairsD ds with
    | some l => if l.length ≤ 15 then .ok (.dc (l.foldl (fun acc p => dPut acc p.1 p.2) [])) e1 else .bad
    | none => .bad)
  | _ => .bad
end Fx
end

section
/-! Dat6: [::-1], [:0:-1], more about dicts. -/
namespace Fx
/-- x[::-1] -/
def oRv : Vl → Option Vl
  | .v (.tup l) => some (.v (.tup l.reverse))
  | .v (.lst l) => some (.o l.reverse)
  | .o l => some (.o l.reverse)
  | _ => none
/-- x[:0:-1], x a list -/
def oRv0 : Vl → Option Vl
  | .v (.lst l) => some (.o (l.drop 1).reverse)
  | .o l => some (.o (l.drop 1).reverse)
  | _ => none
/-- a >= b, a <= b, a > b of data -/
def oGeD (x y : Vl) : Option Vl := match x.d, y.d with
  | some a, some b => if D.alk a b = true ∧ min a.dep b.dep ≤ 64 then some (.v (.bl (!D.ltb a b))) else none
  | _, _ => none
def oLeD (x y : Vl) : Option Vl := match x.d, y.d with
  | some a, some b => if D.alk b a = true ∧ D.alk a b = true ∧ min a.dep b.dep ≤ 64 then some (.v (.bl (!D.ltb b a))) else none
  | _, _ => none
def oGtD (x y : Vl) : Option Vl := match x.d, y.d with
  | some a, some b => if D.alk b a = true ∧ D.alk a b = true ∧ min a.dep b.dep ≤ 64 then some (.v (.bl (D.ltb b a))) else none
  | _, _ => none
/-- in order -/
def sortD (l : List D) : List D := l.mergeSort fun a b => !D.ltb b a
def isTp : D → Bool
  | .tup _ => true
  | _ => false
/-- sorted of alike data (tuples, some of them empty perhaps) -/
def sortX (l : List D) : Option Vl := if (l.all isTp) = true ∧ (l.all fun a => l.all fun b => D.alk a b) = true ∧ D.deps l ≤ 60 then some (.o (sortD l)) else none
def oSortX (x : Vl) : Option Vl := x.items.bind sortX
/-- sorted(set(rows)) -/
def setX (l : List D) : Option Vl := match D.rowsE l with
  | some rs => if rs.length < 64 then some (.o ((usortR rs).map tiD)) else none
  | none => none
def oSortSetX : Vl → Option Vl
  | .o l => setX l
  | .v (.lst l) => setX l
  | _ => none
end Fx
end

section
set_option Elab.async false
set_option linter.all false
set_option maxRecDepth 100000
set_option maxHeartbeats 4000000
/-! Wsl: x[::-1], x[:0:-1]. -/
namespace Fx
open PySem PySem.Spec PyProof.Rows L2 PySem.Calls
section
variable {prog : Program} {w : World} {A : Around} {E : Value → Shared → Prop} {s : Shared}
theorem rv_places (n : Nat) : Builtin.Slice.slicePlaces ((n : Int) - 1) (-1) (-1) = n := by
  have e : Builtin.Slice.slicePlaces ((n : Int) - 1) (-1) (-1) = (if (n : Int) - 1 > -1 then ((n : Int) - 1 - -1 - 1) / (- -1) + 1 else 0).toNat := rfl
  have e1 : (- -1 : Int) = 1 := rfl
  rw [e, e1, Int.ediv_one]
  split <;> omega
theorem sliceApplied_rev {sl : Addr} {vl vu vs : Value} {n : Nat} {Q : Int × Int × Nat → Shared → Prop} (hs : s.heap.IsSliceOf sl vl vu vs) (pl : IsPart vl none) (pu : IsPart vu none) (ps : IsPart vs (some (-1)))
    (h : Q ((n : Int) - 1, -1, n) s) : wpAny (model prog w) A (Builtin.Slice.sliceApplied (.ref sl) (pure (n : Int))) Q E s := by
  obtain ⟨os, hos, hcs, hds⟩ := id hs
  unfold Builtin.Slice.sliceApplied Builtin.Slice.sliceFields
  refine wpAny_bind (wpAny_bind (wpAny_field hos hds (x := vl) rfl (wpAny_bind (wpAny_field hos hds (x := vu) rfl (wpAny_bind (wpAny_field hos hds (x := vs) rfl (wpAny_pure ?_)))))))
  refine wpAny_bind (HT.slicePart_ ps ?_)
  show wpAny _ _ (if ((-1 : Int) == 0) = true then _ else _) _ _ s
  rw [if_neg (by decide)]
  refine wpAny_bind (HT.slicePart_ pl (wpAny_bind (HT.slicePart_ pu (wpAny_bind (wpAny_pure ?_)))))
  have e : Builtin.Slice.sliceAdjust none none (-1) (n : Int) = ((n : Int) - 1, -1) := by
    unfold Builtin.Slice.sliceAdjust
    simp
  show wpAny _ _ (match Builtin.Slice.sliceAdjust none none (-1) (n : Int) with | (lo, hi) => pure (lo, (-1 : Int), Builtin.Slice.slicePlaces lo hi (-1))) _ _ s
  rw [e]
  show wpAny _ _ (pure ((n : Int) - 1, (-1 : Int), Builtin.Slice.slicePlaces ((n : Int) - 1) (-1) (-1))) _ _ s
  rw [rv_places]
  exact wpAny_pure h
theorem pick_rev (xs : Array Value) : ((List.range xs.size).filterMap fun (m : Nat) => xs[(((xs.size : Int) - 1) + (m : Int) * (-1)).toNat]?).toArray = xs.toList.reverse.toArray := by
  have e1 : (List.range xs.size).map (fun (m : Nat) => (((xs.size : Int) - 1) + (m : Int) * (-1)).toNat) = (List.range xs.size).map fun k => xs.size - 1 - k := by
    refine List.map_congr_left fun m hm => ?_
    have := List.mem_range.mp hm
    omega
  have e : (List.range xs.size).filterMap (fun (m : Nat) => xs[(((xs.size : Int) - 1) + (m : Int) * (-1)).toNat]?) = ((List.range xs.size).map fun k => xs.size - 1 - k).filterMap (xs[·]?) := by
    rw [← e1, List.filterMap_map]
    rfl
  rw [e, PySem.W.krv_range, List.filterMap_reverse, PySem.W.krv_all]
theorem getItem_tuple_rev {t sl : Addr} {items : Array Value} {vl vu vs : Value} {Q : Value → Shared → Prop} (ht : IsTup s.heap t items) (hs : s.heap.IsSliceOf sl vl vu vs) (pl : IsPart vl none) (pu : IsPart vu none) (ps : IsPart vs (some (-1)))
    (h : Q (.ref s.heap.objs.size) { s with heap := s.heap.push { cls := .type "tuple", data := .seq items.toList.reverse.toArray } })
    (hsz : items.size ≤ sizeLine) : wpAny (model prog w) A (getItem (.ref t) (.ref sl)) Q E s := by
  have htake : sizeOk (.seq items.toList.reverse.toArray) := by
    show items.toList.reverse.toArray.size ≤ sizeLine
    rw [List.size_toArray, List.length_reverse, Array.length_toList]
    exact hsz
  obtain ⟨os, hos, hcs, hds⟩ := id hs
  have hTs : s.TypeIs (.ref sl) "slice" := ⟨os, hos, hcs⟩
  unfold getItem
  try with_reducible refine wpAny_holding ?_
  first | refine wpAny_bind (wpAny_pure ?_) | skip
  refine wpAny_bind (wpAny_sequenceKey ht.typeIs (by decide) ?_)
  refine wpAny_bind (wpAny_callSpecial?_slot (name := Str.ofString "__getitem__") ht.typeIs PyProof.Rows.slot_tuple_getitem
    (wpAny_call_entry PyProof.Rows.slot_tuple_getitem ht.typeIs entry_tuple_getitem ?_ (args_tuple_getitem _ _)))
  show wpAny _ _ (Builtin.Tuple.tupleItemsOf (.ref t) >>= _) _ _ s
  refine wpAny_bind (tupleItemsOf_ ht ?_)
  refine wpAny_bind (wpAny_typeOf hTs ?_)
  rw [if_pos (by decide)]
  refine wpAny_bind (sliceApplied_rev hs pl pu ps ?_)
  have hno : ¬ ((((items.size : Int) - 1) == 0 && (-1 : Int) == 1 && items.size == items.size) = true) := by
    intro q
    rw [Bool.and_eq_true, Bool.and_eq_true] at q
    have q1 : (-1 : Int) = 1 := eq_of_beq q.1.2
    omega
  show wpAny _ _ (if (((items.size : Int) - 1) == 0 && (-1 : Int) == 1 && items.size == items.size) = true then _ else _) _ _ s
  rw [if_neg hno, pick_rev]
  first
    | exact wpAny_bind (m := Builtin.Tuple.tupleExact _) (wpAny_newObj_type (wpAny_pure ⟨_, rfl, wpAny_pure h⟩) htake)
    | exact wpAny_bind (m := Builtin.Tuple.tupleExact _) (wpAny_newObj_type (wpAny_bind (wpAny_pure (wpAny_pure ⟨_, rfl, wpAny_pure h⟩))) htake)
    | exact wpAny_bind (wpAny_bind (m := Builtin.Tuple.tupleExact _) (wpAny_newObj_type (wpAny_pure (wpAny_pure ⟨_, rfl, wpAny_pure h⟩)) htake))
    | exact wpAny_bind (wpAny_bind (m := Builtin.Tuple.tupleExact _) (wpAny_newObj_type (wpAny_pure ⟨_, rfl, wpAny_pure h⟩) htake))
theorem rv0_pick (items : Array Value) : PySem.slicePick items none (some 0) (some (-1)) = (items.toList.drop 1).reverse.toArray := by
  unfold PySem.slicePick
  have hb : sliceBounds none (some 0) (some (-1)) items.size = ((items.size : Int) - 1, (if items.size = 0 then -1 else 0), -1) := by
    simp only [sliceBounds]
    by_cases h : items.size = 0
    · simp [h]
      try omega
    · simp [h]
      try omega
  rw [hb]
  show ((sliceRange ((items.size : Int) - 1) (if items.size = 0 then -1 else 0) (-1)).filterMap (items[·]?)).toArray = _
  have e : sliceRange ((items.size : Int) - 1) (if items.size = 0 then -1 else 0) (-1) = ((List.range (items.size - 1)).map fun k => 1 + k).reverse := by
    unfold sliceRange
    have h1 : ¬ ((-1 : Int) > 0) := by decide
    simp only [h1, if_false]
    by_cases h : items.size = 0
    · simp [h]
    · simp only [h, if_false]
      by_cases h2 : (items.size : Int) - 1 > 0
      · have e : ((items.size : Int) - 1 - 0 - -1 - 1) / (- -1) = ((items.size - 1 : Nat) : Int) := by
          rw [show (- -1 : Int) = 1 by decide, Int.ediv_one]
          omega
        simp only [h2, if_true, e, Int.toNat_natCast]
        rw [← List.map_reverse, ← PySem.W.krv_range, List.map_map]
        apply List.map_congr_left
        intro k hk
        have := List.mem_range.mp hk
        simp
        omega
      · have : items.size = 1 := by omega
        simp [this]
  rw [e, List.filterMap_reverse, List.filterMap_map]
  have := pick_run items 1 (items.size - 1)
  rw [List.filterMap_map] at this
  rw [this]
  congr 2
  rw [List.take_of_length_le (by rw [List.length_drop, Array.length_toList]; omega)]
end
section
variable {X : Cx} {W : WX} {a b c : Expr} {pos : Pos} {m n : M Vl}
def revV (up : Option Int) (xs : List V) : List V := match up with
  | none => xs.reverse
  | some _ => (xs.drop 1).reverse
def rRv (K : PySem.W.Frag) (up : Option Int) : V → Hp → VK → Prop := fun x H Q =>
  (∃ a xs, x = .ref a ∧ SqL K H a xs ∧ ∀ p, H p = none → Q (.ref p) (upd H p (.lst (revV up xs)))) ∨ (up = none ∧ ∃ a xs, x = .ref a ∧ SqT K H a xs ∧ newT H Q xs.reverse)
theorem revV_len (up : Option Int) (xs : List V) : (revV up xs).length ≤ xs.length := by
  unfold revV
  split
  · rw [List.length_reverse]; exact Nat.le_refl _
  · rw [List.length_reverse, List.length_drop]; omega
theorem revV_vals {xs : List V} {its : List Value} (r : Vals xs its) (up : Option Int) : Vals (revV up xs) (match up with | none => its.reverse | some _ => (its.drop 1).reverse) := by
  unfold revV
  split
  · exact r.reverse
  · exact (r.drop 1).reverse
theorem pe_rv {e : Expr} {te : TE} {hi : Option Expr} {tu : TO} {k : Nat} {p1 p2 p3 pos : Pos} (up : Option Int) (hup : up = none ∨ up = some 0) (he : PE X e te) (hu : PO X hi tu) (ht : ∀ σ H (Q : Option Int → Hp → Prop), Q up H → tu σ H Q) :
    PE X (.Subscript e (.Slice none hi (some (.UnaryOp .USub (.Constant (.int 1) k p1) p2)) p3) pos) (tUn (rRv X.K up) te) := by
  refine ⟨fun pins s σ H Q I h => ?_⟩
  refine Subscript_ (thn (he.run pins s σ H _ I h) fun v s1 ⟨x, H1, I1, r1, q1⟩ => ?_)
  have hst : PO X (some (.UnaryOp .USub (.Constant (.int 1) k p1) p2)) (tPart (tUn (rU fun i => .int (-i)) (tC (.int 1)))) := po_some (pe_un un_neg pe_int)
  refine wpAny_Slice (thn (po_none.run pins s1 σ H1 (fun o H2 => o = none ∧ H2 = H1) I1 ⟨rfl, rfl⟩) fun vl s2 ⟨l, H2, I2, pl, el, e2⟩ => ?_)
  subst el e2
  refine thn (hu.run pins s2 σ H2 (fun o H3 => o = up ∧ H3 = H2) I2 (ht _ _ _ ⟨rfl, rfl⟩)) fun vu s3 ⟨u, H3, I3, pu, eu, e3⟩ => ?_
  subst eu e3
  refine thn (hst.run pins s3 σ H3 (fun o H4 => o = some (-1) ∧ H4 = H3) I3 ⟨1, rfl, -1, rfl, rfl, rfl⟩) fun vs s4 ⟨o, H4, I4, ps, eo, e4⟩ => ?_
  subst eo e4
  have I5 : Inv X pins σ H4 { s4 with heap := s4.heap.push { cls := .type "slice", data := .fields #[vl, vu, vs] } } := I4.kept (t' := s4.toks) fun b ob q => Heap.get?_push_of_some _ q
  rcases q1 with ⟨a, xs, ex, hx, q⟩ | ⟨hn, a, xs, ex, hx, q⟩
  · subst ex
    cases r1
    obtain ⟨its, r, ht, hz⟩ := I5.list hx
    have hlen := r.length
    show wpAny (model X.prog X.w) X.A (subscriptTail e (.Slice none hi (some (.UnaryOp .USub (.Constant (.int 1) k p1) p2)) p3) (.ref a) (.ref s4.heap.objs.size)) (EP X pins σ Q) X.xe { s4 with heap := s4.heap.push { cls := .type "slice", data := .fields #[vl, vu, vs] } }
    refine tail_any (ops := [.ref a, .ref s4.heap.objs.size]) ht.isList.typeIs (PySem.slot_list_getitem.lookup) ?_ (by with_unfolding_all rfl)
    refine wpAny_getItem_list_slice ht.isList (Heap.IsSliceOf.new _ vl vu vs) pl pu ps (by decide) ?_ (by rw [List.size_toArray]; omega)
    have hv := revV_vals r u
    rcases hup with rfl | rfl
    · rw [PySem.W.krv_pick]
      refine ⟨.ref _, _, I5.laid (t' := s4.toks) (o := .lst (revV none xs)) (fun b ob q => Heap.get?_push_of_some _ q) (Nat.le_refl _) ?_, rfl, q _ (I5.hok.fresh (Nat.le_refl _))⟩
      exact ⟨Nat.le_trans (revV_len _ _) hz, _, 0, hv, Heap.get?_push_size _ rfl⟩
    · rw [rv0_pick]
      refine ⟨.ref _, _, I5.laid (t' := s4.toks) (o := .lst (revV (some 0) xs)) (fun b ob q => Heap.get?_push_of_some _ q) (Nat.le_refl _) ?_, rfl, q _ (I5.hok.fresh (Nat.le_refl _))⟩
      exact ⟨Nat.le_trans (revV_len _ _) hz, _, 0, hv, Heap.get?_push_size _ rfl⟩
  · subst ex hn
    cases r1
    obtain ⟨its, r, ht, hz⟩ := I5.tuple hx
    have hlen := r.length
    show wpAny (model X.prog X.w) X.A (subscriptTail e (.Slice none hi (some (.UnaryOp .USub (.Constant (.int 1) k p1) p2)) p3) (.ref a) (.ref s4.heap.objs.size)) (EP X pins σ Q) X.xe { s4 with heap := s4.heap.push { cls := .type "slice", data := .fields #[vl, vu, vs] } }
    refine tail_any (ops := [.ref a, .ref s4.heap.objs.size]) ht.typeIs (PyProof.Rows.slot_tuple_getitem.lookup) ?_ (by with_unfolding_all rfl)
    refine getItem_tuple_rev ht (Heap.IsSliceOf.new _ vl vu vs) pl pu ps ?_ (by rw [List.size_toArray]; omega)
    exact q.fin (t' := s4.toks) I5 r.reverse (by rw [List.length_reverse]; exact hz)
theorem ok_rv {K : PySem.W.Frag} : Op1 K (repV K) oRv (rRv K none) := by
  intro S H x z fx u Q e dom sep rx h
  unfold oRv at e
  split at e
  · rename_i t
    cases e
    have hx := rx.2
    unfold rep at hx
    obtain ⟨a0, vs, e0, e1, e2⟩ := hx
    subst e0
    refine .inr ⟨rfl, a0, vs, rfl, e1.sq, fun pp ob hp ho => ?_⟩
    obtain ⟨k, rt⟩ := fresh_tup e2.rev hp ho
    exact h _ [] _ k (fun _ q => absurd q (by simp)) Sep.nil ⟨rfl, rt⟩
  all_goals first
    | (cases e
       obtain ⟨a0, vs, e0, e1, e2⟩ := RP.rdl (by first | exact .inl rfl | exact .inr rfl) rx.rp
       subst e0
       refine .inl ⟨a0, vs, rfl, e1, fun pp hp => ?_⟩
       obtain ⟨k, fr, sp, rt⟩ := fresh_lst e2.rev hp dom
       exact h _ [pp] _ k fr sp rt)
    | (cases e)
theorem ok_rv0 {K : PySem.W.Frag} : Op1 K (repV K) oRv0 (rRv K (some 0)) := by
  intro S H x z fx u Q e dom sep rx h
  unfold oRv0 at e
  split at e
  all_goals first
    | (cases e
       obtain ⟨a0, vs, e0, e1, e2⟩ := RP.rdl (by first | exact .inl rfl | exact .inr rfl) rx.rp
       subst e0
       refine .inl ⟨a0, vs, rfl, e1, fun pp hp => ?_⟩
       obtain ⟨k, fr, sp, rt⟩ := fresh_lst (e2.drop 1).rev hp dom
       exact h _ [pp] _ k fr sp rt)
    | (cases e)
theorem de_rv {k : Nat} {p1 p2 p3 : Pos} (ha : DE X W a m) : DE X W (.Subscript a (.Slice none none (some (.UnaryOp .USub (.Constant (.int 1) k p1) p2)) p3) pos) (e1 oRv m) :=
  ⟨PEm (pe_rv none (.inl rfl) ha.p po_none (fun _ _ _ h => h)) fun σ H Q h => op1_tr ok_rv h⟩
theorem de_rv0 {k k0 : Nat} {p0 p1 p2 p3 : Pos} (ha : DE X W a m) : DE X W (.Subscript a (.Slice none (some (.Constant (.int 0) k0 p0)) (some (.UnaryOp .USub (.Constant (.int 1) k p1) p2)) p3) pos) (e1 oRv0 m) :=
  ⟨PEm (pe_rv (some 0) (.inr rfl) ha.p (po_some pe_int) (fun _ _ _ h => ⟨0, rfl, h⟩)) fun σ H Q h => op1_tr ok_rv0 h⟩
end
/-! ### order of data -/
section
variable {X : Cx}
def rGeD (K : PySem.W.Frag) : R2 := fun x y H Q => ∃ d e : D, Dp K H x d.py ∧ Dp K H y e.py ∧ D.alk d e = true ∧ min d.dep e.dep ≤ 64 ∧ Q (.bl (!D.ltb d e)) H
theorem opGeD (hu : X.A.units + 66 < cLine) : OpR X (compareOp .GtE) (rGeD X.K) := by
  intro pins s σ H x y v u Q I rx ry h
  obtain ⟨d, e, hd, he, hk, hm, q⟩ := h
  obtain ⟨as, r1⟩ := Dp.reads I _ x v hd rx
  obtain ⟨bs, r2⟩ := Dp.reads I _ y u he ry
  exact PySem.W.ge_data r1 r2 (py_alk d e hk) (alk_non hk) (by rw [py_dep, py_dep]; omega) ⟨.bl _, H, I, by rw [py_ltb d e hk]; rfl, q⟩
theorem ok_geD {K : PySem.W.Frag} : Op2 K (RP K) (RP K) oGeD (rGeD K) := by
  intro S H x y z fx fy u v Q e dom sep rx ry h
  unfold oGeD at e
  cases ex : x.d with
  | none => simp [ex] at e
  | some d =>
    cases ey : y.d with
    | none => simp [ex, ey] at e
    | some d' =>
      simp only [ex, ey] at e
      split at e
      · rename_i hm
        cases e
        exact ⟨d, d', rx.dp ex, ry.dp ey, hm.1, hm.2, pure_end (rep_bl _) h⟩
      · cases e
def rLeD (K : PySem.W.Frag) : R2 := fun x y H Q => ∃ d e : D, Dp K H x d.py ∧ Dp K H y e.py ∧ D.alk d e = true ∧ min d.dep e.dep ≤ 64 ∧ D.alk e d = true ∧ Q (.bl (!D.ltb e d)) H
theorem opLeD (hu : X.A.units + 66 < cLine) : OpR X (compareOp .LtE) (rLeD X.K) := by
  intro pins s σ H x y v u Q I rx ry h
  obtain ⟨d, e, hd, he, hk, hm, hk2, q⟩ := h
  obtain ⟨as, r1⟩ := Dp.reads I _ x v hd rx
  obtain ⟨bs, r2⟩ := Dp.reads I _ y u he ry
  exact PySem.W.le_data r1 r2 (py_alk d e hk) (alk_non hk) (by rw [py_dep, py_dep]; omega) ⟨.bl _, H, I, by rw [py_ltb e d hk2]; rfl, q⟩
theorem ok_leD {K : PySem.W.Frag} : Op2 K (RP K) (RP K) oLeD (rLeD K) := by
  intro S H x y z fx fy u v Q e dom sep rx ry h
  unfold oLeD at e
  cases ex : x.d with
  | none => simp [ex] at e
  | some d =>
    cases ey : y.d with
    | none => simp [ex, ey] at e
    | some d' =>
      simp only [ex, ey] at e
      split at e
      · rename_i hm
        cases e
        exact ⟨d, d', rx.dp ex, ry.dp ey, hm.2.1, hm.2.2, hm.1, pure_end (rep_bl _) h⟩
      · cases e
def rGtD (K : PySem.W.Frag) : R2 := fun x y H Q => ∃ d e : D, Dp K H x d.py ∧ Dp K H y e.py ∧ D.alk d e = true ∧ min d.dep e.dep ≤ 64 ∧ D.alk e d = true ∧ Q (.bl (D.ltb e d)) H
theorem opGtD (hu : X.A.units + 66 < cLine) : OpR X (compareOp .Gt) (rGtD X.K) := by
  intro pins s σ H x y v u Q I rx ry h
  obtain ⟨d, e, hd, he, hk, hm, hk2, q⟩ := h
  obtain ⟨as, r1⟩ := Dp.reads I _ x v hd rx
  obtain ⟨bs, r2⟩ := Dp.reads I _ y u he ry
  exact PySem.W.gt_data r1 r2 (py_alk d e hk) (alk_non hk) (by rw [py_dep, py_dep]; omega) ⟨.bl _, H, I, by rw [py_ltb e d hk2]; rfl, q⟩
theorem ok_gtD {K : PySem.W.Frag} : Op2 K (RP K) (RP K) oGtD (rGtD K) := by
  intro S H x y z fx fy u v Q e dom sep rx ry h
  unfold oGtD at e
  cases ex : x.d with
  | none => simp [ex] at e
  | some d =>
    cases ey : y.d with
    | none => simp [ex, ey] at e
    | some d' =>
      simp only [ex, ey] at e
      split at e
      · rename_i hm
        cases e
        exact ⟨d, d', rx.dp ex, ry.dp ey, hm.2.1, hm.2.2, hm.1, pure_end (rep_bl _) h⟩
      · cases e
end
end Fx
end

section
set_option Elab.async false
set_option linter.all false
set_option maxRecDepth 100000
set_option maxHeartbeats 4000000
/-! Wsg: sorted of tuples of alike data, some of them empty perhaps. -/
namespace Fx
open PySem PySem.Spec PyProof.Rows L2 PySem.W PySem.Calls PySem.SeqAt
section
variable {M : Model} {A : Around} {E : Value → Shared → Prop} {s : Shared}
theorem firstsG : ∀ (vs : List Value) {Q : List (Option Value) → Shared → Prop}, (∀ v ∈ vs, ∃ xs, TupAt s.heap v xs) →
    (∀ fs : List (Option Value), fs.length = vs.length → (∀ (i : Nat) (v : Value), vs[i]? = some v → TupAt s.heap v #[] → fs[i]? = some none) → (∀ (v : Value) (xs : Array Value), vs[0]? = some v → TupAt s.heap v xs → xs.size ≠ 0 → ∃ u, fs[0]? = some (some u)) → Q fs s) → wpAny M A (vs.mapM firstOfTuple') Q E s
  | [], _, _, h => by rw [List.mapM_nil]; exact wpAny_pure (h [] rfl (fun i v q => by simp at q) (fun v xs q => by simp at q))
  | v :: vs, Q, t, h => by
    obtain ⟨xs, a, o, n, rfl, ho, hc, hd⟩ := t v (List.mem_cons_self ..)
    rw [List.mapM_cons]
    refine wpAny_bind ?_
    rw [kas_first_eq]
    refine wpAny_bind (Looks.here (show Looks M s.heap (typeOf (.ref a)) o.cls from (Looks.ld ho).andThen .now) ?_)
    rw [hc, if_neg (by first | decide | simp)]
    refine wpAny_bind (listItems_at ho hd (wpAny_pure ?_))
    refine wpAny_bind (firstsG vs (Q := fun bs s' => wpAny M A (pure (xs[0]? :: bs)) Q E s') (fun u hu => t u (List.mem_cons_of_mem _ hu)) fun fs hl h1 _ => wpAny_pure (h _ (by simp [hl]) (fun i v' q z => ?_) (fun v' ys q z hne => ?_)))
    · cases i with
      | zero =>
        simp at q
        subst q
        obtain ⟨a', o', n', e', ho', hc', hd'⟩ := z
        cases e'
        rw [ho] at ho'
        cases ho'
        rw [hd] at hd'
        cases hd'
        simp
      | succ i => simpa using h1 i v' (by simpa using q) z
    · simp at q
      subst q
      obtain ⟨a', o', n', e', ho', hc', hd'⟩ := z
      cases e'
      rw [ho] at ho'
      cases ho'
      rw [hd] at hd'
      cases hd'
      exact ⟨xs[0]'(by omega), by simp⟩
theorem kindG {v : Value} {vs : List Value} {Q : SortKind → Shared → Prop} {xs : Array Value} {i : Nat} {u : Value} (t : ∀ u ∈ v :: vs, ∃ xs, TupAt s.heap u xs) (h0 : TupAt s.heap v xs) (hx : xs.size ≠ 0) (hi : (v :: vs)[i]? = some u) (hu : TupAt s.heap u #[]) (h : Q general' s) : wpAny M A (keyKind' (v :: vs).toArray) Q E s := by
  rw [keyKind'_eq, List.mapM_toArray, map_eq_pure_bind]
  refine wpAny_bind (wpAny_bind (firstsG (v :: vs) t fun fs hl h1 h2 => wpAny_pure ?_))
  have e1 := h1 i u hi hu
  obtain ⟨w, e2⟩ := h2 v xs rfl h0 hx
  have hn : ¬ (fs.toArray.all (·.isSome)) = true := by
    intro q
    have := (Array.all_eq_true.mp q) i (by
      have := (List.getElem?_eq_some_iff.mp e1).1
      simpa using this)
    have e3 := (List.getElem?_eq_some_iff.mp e1).2
    simp [e3] at this
  rw [if_neg hn]
  have hp : (fs.toArray[0]?.bind id).isSome = true := by
    have : fs.toArray[0]? = some (some w) := by simpa using e2
    rw [this]
    rfl
  rw [if_pos hp]
  exact wpAny_pure h
end
section
variable {prog : Program} {w : World} {A : Around} {s : Shared} {E : Value → Shared → Prop}
theorem keyLt'_general (x y : Value) : keyLt' general' x y = oneLt' false x y := rfl
theorem genLt_tups {xs ys : List PyData} {a b : Value} {as bs : List Addr} {Q : Bool → Shared → Prop} (ra : Reads s.heap a (.tuple xs) as) (rb : Reads s.heap b (.tuple ys) bs) (hal : alikeAll xs ys = true)
    (hu : A.units + min (PyData.tuple xs).depth (PyData.tuple ys).depth < cLine) (hq : Q (dataLt (.tuple xs) (.tuple ys)) s) : wpAny (model prog w) A (oneLt' false a b) Q E s := by
  rw [oneLt'_eq]
  simp only [Bool.false_eq_true, if_false]
  refine wpAny_bind (rcLt_alike (.tuple xs) (.tuple ys) A s a b as bs ra rb (by simpa [alike] using hal) (by simp) hu prog w E _ ?_)
  exact wpAny_truthy_bool hq
theorem sortsAtT {vs : List Value} {ds : List PyData} (e : EachIs (fun v d => ∃ as, Reads s.heap v d as) vs ds) (hal : AllAlike ds) (ht : ∀ d ∈ ds, ∃ xs, d = .tuple xs)
    (hu : ∀ d, d ∈ ds → A.units + d.depth < cLine) : SortsAt prog w A s (dataKind s.heap ds) vs := by
  by_cases hall : ∀ d ∈ ds, ∃ x r, d = .tuple (x :: r)
  · exact SortsAt.data e hal (.inl hall) hu
  · have room : ∀ {d d' : PyData}, d ∈ ds → A.units + min d.depth d'.depth < cLine := fun {d d'} hd => Nat.lt_of_le_of_lt (Nat.add_le_add_left (Nat.min_le_left _ _) _) (hu d hd)
    cases ds with
    | nil => exact absurd (fun d hd => by simp at hd) hall
    | cons d0 ds =>
      obtain ⟨x0, rfl⟩ := ht d0 (by simp)
      cases x0 with
      | nil => exact sortsAtE e hal (fun d hd => ht d (by simp [hd])) hu
      | cons x r =>
        refine ⟨fun v hv => ?_, general', ?_, fun h2 E Q hq => ?_⟩
        · obtain ⟨d, hd, as, r⟩ := e.left v hv
          exact ⟨_, dataKind_some hal hd r⟩
        · intro E x y a b Q ha hb hq
          obtain ⟨d, as, hd, ra, rfl⟩ := dataKind_inv ha
          obtain ⟨d', as', hd', rb, rfl⟩ := dataKind_inv hb
          rw [keyLt'_general]
          have hdd := hal d hd d' hd'
          have hr := room (d' := d') hd
          obtain ⟨xs, rfl⟩ := ht d hd
          obtain ⟨ys, rfl⟩ := ht d' hd'
          exact genLt_tups ra rb (by simpa [alike] using hdd) hr hq
        · have ht' : ∀ u ∈ vs, ∃ xs, TupAt s.heap u xs := fun u hu => by
            obtain ⟨d, hd, as, r⟩ := e.left u hu
            obtain ⟨xs, rfl⟩ := ht d hd
            obtain ⟨vs, t, _⟩ := reads_tup r
            exact ⟨vs, t⟩
          have hex : ∃ i : Nat, ((PyData.tuple (x :: r) :: ds) : List PyData)[i]? = some (PyData.tuple []) := by
            apply Classical.byContradiction
            intro hn
            refine hall fun d hd => ?_
            obtain ⟨xs, rfl⟩ := ht d hd
            cases xs with
            | nil =>
              obtain ⟨i, hi⟩ := List.mem_iff_getElem?.mp hd
              exact absurd ⟨i, hi⟩ hn
            | cons x r => exact ⟨x, r, rfl⟩
          obtain ⟨i, hi⟩ := hex
          have get : ∀ {vs : List Value} {ds : List PyData} {i : Nat} {d : PyData}, EachIs (fun v d => ∃ as, Reads s.heap v d as) vs ds → ds[i]? = some d → ∃ v as, vs[i]? = some v ∧ Reads s.heap v d as := by
            intro vs ds i d e
            induction e generalizing i with
            | nil => intro h; simp at h
            | cons h1 t ih =>
              intro h
              cases i with
              | zero =>
                simp at h
                subst h
                obtain ⟨as, h1⟩ := h1
                exact ⟨_, as, rfl, h1⟩
              | succ i => exact ih (by simpa using h)
          obtain ⟨u, as, hu1, hu2⟩ := get e hi
          obtain ⟨ws, t1, t2⟩ := reads_tup hu2
          have tw : ws = #[] := Array.eq_empty_of_size_eq_zero (by simpa using t2)
          subst tw
          cases e with
          | @cons v _ vs' _ h1 h3 =>
            obtain ⟨as1, r1⟩ := h1
            obtain ⟨xs, t3, t4⟩ := reads_tup r1
            exact kindG ht' t3 (by rw [t4]; simp) hu1 t1 hq
end
/-! ### sorted -/
def rSortX (K : Frag) : List V → Hp → VK → Prop := fun vs H Q => ∃ (a : Addr) (xs : List V) (S : SP') (ds : List D), vs = [V.ref a] ∧ (SqL K H a xs ∨ SqT K H a xs) ∧ reps K S H ds xs ∧ (ds.all isTp) = true ∧ (∀ a ∈ ds, ∀ b ∈ ds, D.alk a b = true) ∧ D.deps ds ≤ 60 ∧
  ∀ ys p, H p = none → ys.length = xs.length → reps K S H (sortD ds) ys → Q (.ref p) (upd H p (.lst ys))
section
variable {K : Frag} {S : SP'} {H : Hp}
theorem each_ds : ∀ {ds : List D} {xs : List V} {us : List Value}, reps K S H ds xs → Vals xs us → EachIs (fun v r => ∃ x, rep K S H r x ∧ RelV x v) us ds
  | [], _, _, h, r => by
    unfold reps at h
    subst h
    cases r
    exact .nil
  | r0 :: rs, _, _, h, r => by
    unfold reps at h
    obtain ⟨v, q, rfl, h1, h2⟩ := h
    cases r with
    | cons r1 r2 => exact .cons ⟨v, h1, r1⟩ (each_ds h2 r2)
theorem ds_each : ∀ {ds : List D} {us : List Value}, EachIs (fun v r => ∃ x, rep K S H r x ∧ RelV x v) us ds → ∃ ys, reps K S H ds ys ∧ Vals ys us
  | _, _, .nil => ⟨[], by simp [reps], .nil⟩
  | _, _, .cons ⟨x, h1, h2⟩ t => by
    obtain ⟨ys, h3, h4⟩ := ds_each t
    exact ⟨x :: ys, reps.cons h1 h3, .cons h2 h4⟩
end
theorem sortD_data {ds : List D} (h : ∀ a ∈ ds, ∀ b ∈ ds, D.alk a b = true) : ds.mergeSort (dataLe false D.py) = sortD ds := by
  have := List.map_mergeSort (f := id) (r := dataLe false D.py) (s := fun a b => !D.ltb b a) (l := ds) fun a ha b hb => by
    show (!dataLt b.py a.py) = _
    rw [py_ltb b a (h b hb a ha)]
    rfl
  simpa [sortD] using this
theorem deps_mem : ∀ {l : List D} {d : D}, d ∈ l → d.dep ≤ D.deps l
  | a :: l, d, h => by
    simp only [D.deps]
    rcases List.mem_cons.mp h with rfl | h
    · exact Nat.le_max_left _ _
    · exact Nat.le_trans (deps_mem h) (Nat.le_max_right _ _)
theorem tp_py {d : D} (h : isTp d = true) : ∃ xs, d.py = .tuple xs := by
  cases d <;> first | (cases h; done) | skip
  rename_i l
  exact ⟨D.pys l, by simp only [D.py]⟩
theorem cr_sortX {X : Cx} (hu : X.A.units + 66 < cLine) : CallR X (.builtin "sorted") (rSortX X.K) := by
  intro pins s σ H vs us Q I r h
  obtain ⟨a, xs, S, ds, rfl, hs, hr, htp, hk, hdp, q⟩ := h
  have hlr : ds.length = xs.length := hr.length
  have key : ∀ (its : List Value), xs.length ≤ sizeLine → ∀ out : List Value, out.length = ds.length → EachIs (fun v r => ∃ x, rep X.K S H r x ∧ RelV x v) out (ds.mergeSort (dataLe false D.py)) →
      EP X pins σ Q (.ref (s.heap.objs.size + 1)) { s with heap := sortedAll s.heap its (List.toArray out) } := fun its hz out hl e => by
    obtain ⟨ep, he'⟩ := PyProof.Rows.sortedAll_at s.heap its (List.toArray out)
    rw [sortD_data hk] at e
    obtain ⟨ys, h1, h2⟩ := ds_each e
    have hy : ys.length = xs.length := by rw [Vals.length h2, hl, hlr]
    exact ⟨.ref _, upd H (s.heap.objs.size + 1) (.lst ys), I.laid (t' := s.toks) (fun _ _ => PyProof.Rows.sortedAll_old) (Nat.le_succ _) ⟨by omega, out, ep, h2, he'⟩, rfl, q _ _ (I.hok.fresh (Nat.le_succ _)) hy h1⟩
  have hal : AllAlike (ds.map D.py) := fun d hd d' hd' => by
    obtain ⟨x, hx, rfl⟩ := List.mem_map.mp hd
    obtain ⟨y, hy, rfl⟩ := List.mem_map.mp hd'
    exact py_alk x y (hk x hx y hy)
  have htt : ∀ d ∈ ds.map D.py, ∃ xs, d = .tuple xs := fun d hd => by
    obtain ⟨x, hx, rfl⟩ := List.mem_map.mp hd
    exact tp_py (List.all_eq_true.mp htp x hx)
  have hb : ∀ d ∈ ds.map D.py, X.A.in1.in1.units + d.depth < cLine := fun d hd => by
    obtain ⟨x, hx, rfl⟩ := List.mem_map.mp hd
    have h1 : X.A.in1.in1.units = X.A.units + 2 := rfl
    have := deps_mem hx
    rw [h1, py_dep]; omega
  rcases hs with hs | hs
  · obtain ⟨its, rv, hl, hz⟩ := I.list hs
    rw [Vals.ref1 r]
    obtain ⟨as, ra⟩ := Dp.readsAll I _ xs its hr.dp rv
    rw [pys_map] at ra
    have hl2 : xs.length = its.length := Vals.length rv
    have e := each_ds hr rv
    have er := readsAll_each D.py ra
    have er' : EachIs (fun v b => ∃ as, Reads (sortingHeap (copyHeap s.heap its) (s.heap.objs.size + 1) its) v (D.py b) as) its ds := er.mono fun _ _ ⟨as, r⟩ => ⟨as, PyProof.Rows.Reads.keeps (fun _ _ => sorting_copy_old) r⟩
    have S1 := sortsAtT (prog := X.prog) (w := X.w) (A := X.A.in1.in1) (s := { s with heap := sortingHeap (copyHeap s.heap its) (s.heap.objs.size + 1) its }) (each_map (R := fun v d => ∃ as, Reads (sortingHeap (copyHeap s.heap its) (s.heap.objs.size + 1) its) v d as) D.py er') hal htt hb
    exact sorted_vals hl.isList S1 (by rw [← hl2]; exact hz) (key its hz _ (by rw [sortVals_length false rfl, ← hl2, hlr]) (sortVals_data false e er' hal))
  · obtain ⟨its, rv, hl, hz⟩ := I.tuple hs
    rw [Vals.ref1 r]
    obtain ⟨as, ra⟩ := Dp.readsAll I _ xs its hr.dp rv
    rw [pys_map] at ra
    have hl2 : xs.length = its.length := Vals.length rv
    have e := each_ds hr rv
    have er := readsAll_each D.py ra
    have er' : EachIs (fun v b => ∃ as, Reads (sortingHeap (copyHeap s.heap its) (s.heap.objs.size + 1) its) v (D.py b) as) its ds := er.mono fun _ _ ⟨as, r⟩ => ⟨as, PyProof.Rows.Reads.keeps (fun _ _ => sorting_copy_old) r⟩
    have S1 := sortsAtT (prog := X.prog) (w := X.w) (A := X.A.in1.in1) (s := { s with heap := sortingHeap (copyHeap s.heap its) (s.heap.objs.size + 1) its }) (each_map (R := fun v d => ∃ as, Reads (sortingHeap (copyHeap s.heap its) (s.heap.objs.size + 1) its) v d as) D.py er') hal htt hb
    refine sorted_of_tup hl (by rw [← hl2]; exact hz) fun _ => list_sort_vals (s := { s with heap := copyHeap s.heap its }) (copyHeap_at s.heap its) S1 (by rw [← hl2]; exact hz) ⟨rfl, ?_⟩
    exact key its hz _ (by rw [sortVals_length false rfl, ← hl2, hlr]) (sortVals_data false e er' hal)
theorem ok_sortX {K : Frag} : Op1 K (RP K) oSortX (fun x H Q => rSortX K [x] H Q) := by
  intro S H x z fx u Q e dom sep rx h
  unfold oSortX at e
  cases hx : x.items with
  | none => rw [hx] at e; cases e
  | some l =>
    rw [hx, Option.bind_some] at e
    unfold sortX at e
    split at e
    · rename_i hc
      cases e
      obtain ⟨a, vs, rfl, h1, h2⟩ := RP.items hx rx
      refine ⟨a, vs, S, l, rfl, h1, h2, hc.1, fun a ha b hb => List.all_eq_true.mp (List.all_eq_true.mp hc.2.1 a ha) b hb, hc.2.2, fun ys p hp hy hr => ?_⟩
      obtain ⟨k, fr, sp, rt⟩ := fresh_lst hr hp dom
      exact h _ [p] _ k fr sp rt
    · cases e
section
variable {X : Cx} {W : WX} {a b c d : Expr} {pos : Pos} {m n o p : M Vl}
theorem de_sortX {p : Pos} (hu : X.A.units + 66 < cLine) (ha : DP X W a m) (hm : X.mg "sorted" = none) (hg : Gl X "sorted" := by rfl)
    (he : starEach (a :: []) X.env = (false, eval a X.env) :: starEach [] X.env := by rfl) (hpl : (backTo pos (starEach [] X.env)).any (·.1) = false := by rfl) : DE X W (.Call (.Name "sorted" p) [a] [] pos) (e1 oSortX m) := de_b1 (cr_sortX hu) ok_sortX ha hm (by decide +kernel) hg (by decide) (by decide) he hpl
end
/-! ### sorted(set(rows)), some empty perhaps -/
section
variable {P : Program} {w : World} {A : Around} {E : Value → Shared → Prop} {s : Shared}
theorem sorted_setX {a : Addr} {L : List (Addr × List Int)} {es : Array (Int × Value)} {ep : Nat} {t : SetTable} {Q : Value → Shared → Prop} (R : SetTR P w s.heap a L es ep t) (hh : A.handled = none) (hu : A.units + 66 < cLine)
    (hQ : ∀ s' p (out : Array Value) (c : Nat) (L' : List (Addr × List Int)), (∀ b o, s.heap.get? b = some o → s'.heap.get? b = some o) → s'.gens = s.gens → s'.os = s.os → s.heap.objs.size ≤ p →
      s'.heap.get? p = some (seqObj "list" out c) → out.toList = L'.map (fun q => Value.ref q.1) → L'.Perm L → L'.Pairwise (fun q r => q.2 ≤ r.2) → Q (.ref p) s') :
    wpAny (model P w) A (call (.builtin "sorted") [.ref a]) Q E s := by
  obtain ⟨o, ho, hex, hd⟩ := R.ob
  have few := R.few
  have hsz := R.size
  refine call_function_entry_kw kind_sorted plain_sorted entry_sorted (args_sorted1 _) ?_
  unfold Builtin.«sorted»
  refine wpAny_bind (m := checkCount "sorted" 1 1 _) (wpAny_pure (wpAny_bind (collect_set (A := A.in1) hh ⟨o, ho, hex.1, hd⟩ R.fits (by unfold scanBound; omega) R.tab.ris R.led fun s1 vs k1 hz g1 o1 pm => ?_)))
  have er : es.toList.map (·.2) = L.map fun q => Value.ref q.1 := by
    rw [R.rows]
    unfold L2.rowsOf
    rw [List.map_map]
    rfl
  rw [er] at pm
  obtain ⟨L1, p1, rfl⟩ := perm_map_inv pm L rfl
  have len1 : L1.length < 64 := by rw [p1.length_eq]; exact few
  refine wpAny_bind (wpAny_newList ?_ (by rw [List.length_map, sizeLine_eq]; omega))
  generalize hvs : L1.map (fun q => Value.ref q.1) = vs
  have lv : vs.length = L1.length := by rw [← hvs, List.length_map]
  have at1 : (s1.heap.push (seqObj "list" vs.toArray 0)).get? s1.heap.objs.size = some (seqObj "list" vs.toArray 0) := Heap.get?_push_size _ rfl
  have keep : ∀ b u, s.heap.get? b = some u → (s1.heap.push (seqObj "list" vs.toArray 0)).get? b = some u ∧ b ≠ s1.heap.objs.size := fun b u e => ⟨Heap.get?_push_of_some _ (k1 b u e), Nat.ne_of_lt (Heap.lt_size (k1 b u e))⟩
  have keepS : ∀ b u, s.heap.get? b = some u → (sortingHeap (s1.heap.push (seqObj "list" vs.toArray 0)) s1.heap.objs.size vs).get? b = some u := fun b u e => sortingHeap_old (keep b u e).2 (keep b u e).1
  have each : EachIs (fun v (b : Addr × List Int) => ∃ as, Reads (sortingHeap (s1.heap.push (seqObj "list" vs.toArray 0)) s1.heap.objs.size vs) v (PyData.tuple (b.2.map PyData.int)) as) vs L1 := by
    rw [← hvs]
    have gen : ∀ M : List (Addr × List Int), (∀ q ∈ M, q ∈ L) → EachIs (fun v (b : Addr × List Int) => ∃ as, Reads (sortingHeap (s1.heap.push (seqObj "list" vs.toArray 0)) s1.heap.objs.size vs) v (PyData.tuple (b.2.map PyData.int)) as) (M.map fun q => Value.ref q.1) M := by
      intro M
      induction M with
      | nil => intro _; exact .nil
      | cons q M ih =>
        intro hM
        exact .cons (isT_reads (isT_keep (R.tup q (hM q (by simp))) keepS)) (ih fun r hr => hM r (by simp [hr]))
    have := gen L1 fun q hq => p1.mem_iff.mp hq
    rw [hvs] at this ⊢
    exact this
  have er0 : EachIs (fun v (b : Addr × List Int) => v = Value.ref b.1) vs L1 := by rw [← hvs]; exact each_refs L1
  have hal : AllAlike (L1.map fun b => PyData.tuple (b.2.map PyData.int)) := AllAlike.of fun r r' => by simp only [alike]; exact alike_ints r.2 r'.2
  have htt : ∀ d ∈ L1.map fun b => PyData.tuple (b.2.map PyData.int), ∃ xs, d = .tuple xs := fun d hd => by
    obtain ⟨b, hb, rfl⟩ := List.mem_map.mp hd
    exact ⟨_, rfl⟩
  have hb : ∀ b : Addr × List Int, b ∈ L1 → A.in1.in1.units + (PyData.tuple (b.2.map PyData.int)).depth < cLine := fun b _ => by
    have : A.in1.in1.units = A.units + 2 := rfl
    rw [this]
    simp only [PyData.depth, depth_ints]; omega
  have hd : dataLe false (fun b : Addr × List Int => PyData.tuple (b.2.map PyData.int)) = fun a b => decide (a.2 ≤ b.2) := by
    funext x y
    exact congrFun (congrFun dataLe_tis x.2) y.2
  have S1 := sortsAtT (prog := P) (w := w) (A := A.in1.in1) (s := { s1 with heap := sortingHeap (s1.heap.push (seqObj "list" vs.toArray 0)) s1.heap.objs.size vs }) (each_map (fun b : Addr × List Int => PyData.tuple (b.2.map PyData.int)) each) hal htt (bound_map hb)
  refine wpAny_bind (wpAny_holding (wpAny_call_entry_kw slot_list_sort ⟨_, at1, rfl⟩ entry_list_sort ?body (args_list_sort _)))
  case body =>
    show wpAny (model P w) A.in1.in1 (Builtin.«list.sort» ⟨[.ref s1.heap.objs.size], []⟩) _ _ _
    refine list_sort_vals (s := { s1 with heap := s1.heap.push (seqObj "list" vs.toArray 0) }) at1 S1 (by rw [lv, sizeLine_eq]; omega) ⟨_, rfl, ?_⟩
    have e2 := sortVals_data false er0 each hal
    rw [hd] at e2
    have e3 := refs_each e2
    obtain ⟨c, hc⟩ := sortedHeap_at (vs := vs) (out := (sortVals (dataKind (sortingHeap (s1.heap.push (seqObj "list" vs.toArray 0)) s1.heap.objs.size vs) (L1.map fun b => PyData.tuple (b.2.map PyData.int))) false vs vs).toArray) at1
    refine wpAny_pure ⟨_, rfl, hQ _ s1.heap.objs.size _ c _ (fun b u e => ?_) g1 o1 hz hc (by rw [List.toList_toArray]; exact e3) ((List.mergeSort_perm _ _).trans p1) ?_⟩
    · have q := Heap.lt_size (k1 b u e)
      refine (sortedHeap_old (keep b u e).2 (by rw [size_push']; exact Nat.lt_succ_of_lt q)).trans (keep b u e).1
    · have := List.pairwise_mergeSort (le := fun (a b : Addr × List Int) => decide (a.2 ≤ b.2)) (fun a b c h1 h2 => by simp at *; exact List.le_trans h1 h2) (fun a b => by simp; exact List.le_total _ _) L1
      exact this.imp fun h => by simpa using h
end
section
variable {X : Cx} {W : WX} {a : Expr} {ta : TE} {m n : M Vl} {b : Expr} {pos : Pos}
def tSSX (K : PySem.W.Frag) (ta : TE) : TE := fun σ H Q => ta σ H fun x H1 => ∃ l : Addr, x = .ref l ∧
  ((∃ ks : List (Addr × List Int), SqL K H1 l (ks.map fun p => V.ref p.1) ∧ (∀ p ∈ ks, SqT K H1 p.1 (p.2.map V.int)) ∧ ks.length < 64 ∧
     ∀ (p : Addr) (L : List (Addr × List Int)), H1 p = none → (∀ q ∈ L, q ∈ ks) → L.map (·.2) = usortR (ks.map (·.2)) → Q (.ref p) (upd H1 p (.lst (L.map fun q => V.ref q.1)))))
theorem pe_ssx {p p2 q pos : Pos} (hc : X.calm = true) (hu : X.A.units + 66 < cLine) (hg : Gl X "sorted") (hm : X.mg "sorted" = none) (hg2 : Gl X "set") (hm2 : X.mg "set" = none) (ha : PE X a ta)
    (na : starEach [a] X.env = (false, eval a X.env) :: starEach [] X.env := by rfl) : PE X (.Call (.Name "sorted" p) [.Call (.Name "set" p2) [a] [] q] [] pos) (tSSX X.K ta) := by
  refine ⟨fun pins s σ H Q I h => ?_⟩
  refine Call_ (ld_blt I hg hm boot_sorted ?_)
  refine PyProof.Rows.callWith_builtin1 (PyProof.Rows.args_cons ?_ rfl) rfl rfl
  refine Call_ (ld_blt I hg2 hm2 PyProof.Rows.boot_set ?_)
  refine PyProof.Rows.callWith_type1 (PyProof.Rows.args_cons (thn (ha.run pins s σ H _ I h) fun v s1 ⟨x, H1, I1, r1, q1⟩ => PyProof.Rows.args_nil ?_) na) na rfl
  obtain ⟨l, rfl, q1⟩ := q1
  cases r1
  have hd := I1.ok.hd hc
  obtain ⟨ks, hq, hk, h64, q1⟩ := q1
  · obtain ⟨its, r, pl, hz⟩ := I1.list hq
    refine call_set_tups (P := X.prog) (w := X.w) ks hd pl.isList (by simpa using refs_of_vals r) (fun p hp => I1.isT (hk p hp)) h64 (by omega) fun h' tk L es ep t R g0 k => ?_
    refine PyProof.Rows.args_nil ?_
    have I2 : Inv X pins σ H1 { s1 with heap := h', toks := tk } := I1.kept k
    have sub : ∀ q ∈ L, q ∈ ks := fun q hq => List.mem_of_mem_take (g0.sub q hq)
    have all : ∀ q ∈ ks, q.2 ∈ L.map (·.2) := fun q hq => g0.all q (by rw [List.take_length]; exact hq)
    have nd := R.nd
    refine sorted_setX (s := { s1 with heap := h', toks := tk }) R hd hu fun s' p out c2 L' k2 g o hp hg' ho hperm hpw => ?_
    have hL : L'.length < 64 := by rw [hperm.length_eq]; exact R.few
    have hlen : (L'.map fun q => V.ref q.1).length ≤ sizeLine := by rw [List.length_map, sizeLine_eq]; omega
    have hn : H1 p = none := I2.hok.fresh hp
    have hv : Vals (L'.map fun q => V.ref q.1) out.toList := by rw [ho]; exact vals_of_refs L'
    have J : Inv X pins σ (upd H1 p (.lst (L'.map fun q => V.ref q.1))) { ({ s1 with heap := h', toks := tk } : Shared) with heap := s'.heap, gens := s'.gens, drawn := s'.drawn, toks := s'.toks } :=
      I2.call (ch := []) (Un.laid k2 hp hn) (I2.hok.laid k2 hp ⟨hlen, out.toList, c2, hv, hg'⟩) (by rw [g]; exact I2.bare) (fun _ z => nomatch z)
    have e : s' = { ({ s1 with heap := h', toks := tk } : Shared) with heap := s'.heap, gens := s'.gens, drawn := s'.drawn, toks := s'.toks } := by
      cases s'
      cases s1
      cases o
      rfl
    have nd' : (L'.map (·.2)).Nodup := (hperm.map (·.2)).nodup_iff.mpr nd
    have e2 : L'.map (·.2) = usortR (ks.map (·.2)) := by
      refine sortedR_ext _ _ ?_ (usortR_sorted _) fun y => ?_
      · rw [List.pairwise_map]
        rw [List.Nodup, List.pairwise_map] at nd'
        have both := hpw.and nd'
        refine both.imp fun h => ?_
        rcases lt_or _ _ with z | z | z
        · exact z
        · exact absurd z h.2
        · exact absurd z (List.not_lt.mpr h.1)
      · rw [usortR_mem]
        constructor
        · intro hy
          obtain ⟨q, hq, rfl⟩ := List.mem_map.mp hy
          exact List.mem_map.mpr ⟨q, sub q (hperm.mem_iff.mp hq), rfl⟩
        · intro hy
          obtain ⟨q, hq, rfl⟩ := List.mem_map.mp hy
          exact (hperm.map (·.2)).mem_iff.mpr (all q hq)
    rw [e]
    exact ⟨.ref p, _, J, rfl, q1 p L' hn (fun q hq => sub q (hperm.mem_iff.mp hq)) e2⟩
theorem de_ssetX {p p2 q pos : Pos} (hc : X.calm = true) (hu : X.A.units + 66 < cLine) (ha : DP X W a m) (hm : X.mg "sorted" = none) (hm2 : X.mg "set" = none) (hg : Gl X "sorted" := by rfl) (hg2 : Gl X "set" := by rfl)
    (na : starEach [a] X.env = (false, eval a X.env) :: starEach [] X.env := by rfl) : DE X W (.Call (.Name "sorted" p) [.Call (.Name "set" p2) [a] [] q] [] pos) (e1 oSortSetX m) := by
  refine ⟨PEm (pe_ssx hc hu hg hm hg2 hm2 ha.p na) fun σ H Q h => ?_⟩
  refine TR.bind (R := RP X.K) (R' := repV X.K) (k := fun x e => lift (oSortSetX x) e) (Q := Q) h fun S e fp S1 H1 e1 fp1 fx x v wd ext wd1 sep1 rx pp => ?_
  cases hx : oSortSetX x with
  | none => rw [hx] at pp; exact pp.elim
  | some y =>
    rw [hx] at pp
    obtain ⟨l, a0, vs, hl, rfl, h2, h3⟩ : ∃ l a vs, setX l = some y ∧ v = .ref a ∧ SqL X.K H1 a vs ∧ reps X.K S1 H1 l vs := by
      cases x with
      | v d =>
        cases d with
        | lst l =>
          obtain ⟨_, a, vs, h1, h2, h3⟩ := rx
          exact ⟨l, a, vs, hx, h1, h2, h3⟩
        | _ => cases hx
      | o l =>
        obtain ⟨a, vs, h1, h2, h3, h4⟩ := rx
        exact ⟨l, a, vs, hx, h1, .inl (.inl h3), h4⟩
      | _ => cases hx
    refine ⟨a0, rfl, ?_⟩
    unfold setX at hl
    split at hl
    · rename_i rs hrs
      split at hl
      · rename_i h64
        cases hl
        obtain rfl := rowsE_of hrs
        obtain ⟨ks, rfl, e2, h4⟩ := rows_refs h3
        refine ⟨ks, h2, fun p hp => (h4 p hp).1, by rw [← e2, List.length_map] at h64; exact h64, fun p L hp hL e3 => ?_⟩
        have r5 := refs_rows (K := X.K) (S := S1) (H := H1) L fun q hq => (h4 q (hL q hq)).2
        rw [e3, e2] at r5
        obtain ⟨k, fr, sp, rt⟩ := fresh_lst r5 hp wd1.dom
        exact pp S1 _ fp1 [p] _ ((ext.drop).grow k fr) (wd1.grow k) (wd1.sep.grow sp k fr) rt
      · cases hl
    · cases hl
end
end Fx
end

section
set_option Elab.async false
set_option linter.all false
set_option maxRecDepth 100000
set_option maxHeartbeats 4000000
/-! Wdc: dicts of one's own. -/
namespace Fx
open PySem PySem.Spec PyProof.Rows L2 PySem.W PySem.Calls
section
variable {K : PySem.W.Frag} {S : SP'} {H : Hp}
theorem kyD_of {d : D} (h : isK d = true) : ∃ k, kyD d = some k := by
  cases d <;> first | (exact ⟨_, rfl⟩) | (cases h)
theorem sameK_iff {a d : D} {ka kd : Key} (h1 : kyD a = some ka) (h2 : kyD d = some kd) : sameK a d = decide (ka = kd) := by
  cases a <;> cases d <;> first | (cases h1; done) | (cases h2; done) | skip
  all_goals
    simp only [kyD, Option.some.injEq] at h1 h2
    subst h1 h2
    unfold sameK
  · rw [Bool.eq_iff_iff, decide_eq_true_eq, decide_eq_true_eq]
    exact ⟨fun h => by rw [h], fun h => Sum.inl.inj h⟩
  · simp
  · simp
  · rw [Bool.eq_iff_iff, decide_eq_true_eq, decide_eq_true_eq]
    exact ⟨fun h => by rw [h], fun h => ofS_inj (Sum.inr.inj h)⟩
theorem key_kV {d : D} {k : Key} {v : V} (h : kyD d = some k) (r : rep K S H d v) : v = kV k := by
  cases d <;> first | (cases h; done) | skip
  all_goals
    simp only [kyD, Option.some.injEq] at h
    subst h
    unfold rep at r
    exact r
theorem kvr.len : ∀ {l : List (D × D)} {ks : List (Key × V)}, kvr K S H l ks → l.length = ks.length
  | [], _, h => by unfold kvr at h; subst h; rfl
  | p :: l, _, h => by
    unfold kvr at h
    obtain ⟨k, v, r, rfl, _, _, h4⟩ := h
    rw [List.length_cons, List.length_cons, kvr.len h4]
theorem kvr.get : ∀ {l : List (D × D)} {ks : List (Key × V)} {d : D} {k : Key}, kvr K S H l ks → kyD d = some k → (dGet l d).isSome = (valV ks k).isSome ∧ ∀ x, dGet l d = some x → ∃ v, valV ks k = some v ∧ rep K S H x v
  | [], _, d, k, h, _ => by
    unfold kvr at h
    subst h
    exact ⟨rfl, fun x e => by cases e⟩
  | p :: l, _, d, k, h, hd => by
    unfold kvr at h
    obtain ⟨k', v, r, rfl, h2, h3, h4⟩ := h
    obtain ⟨i1, i2⟩ := kvr.get h4 hd
    have hs := sameK_iff h2 hd
    unfold dGet at i1 i2 ⊢
    by_cases e : k' = k
    · have hs' : sameK p.1 d = true := by rw [hs]; exact decide_eq_true e
      rw [List.find?_cons_of_pos (p := fun q : D × D => sameK q.1 d) hs', valV_pos (p := (k', v)) e]
      exact ⟨rfl, fun x hx => by cases hx; exact ⟨v, rfl, h3⟩⟩
    · have hs' : ¬ sameK p.1 d = true := by rw [hs]; simpa using e
      rw [List.find?_cons_of_neg (p := fun q : D × D => sameK q.1 d) hs', valV_neg (p := (k', v)) e]
      exact ⟨i1, i2⟩
theorem kvr.any : ∀ {l : List (D × D)} {ks : List (Key × V)} {d : D} {k : Key}, kvr K S H l ks → kyD d = some k → (l.any fun p => sameK p.1 d) = (ks.any fun kv => decide (kv.1 = k))
  | [], _, d, k, h, _ => by unfold kvr at h; subst h; rfl
  | p :: l, _, d, k, h, hd => by
    unfold kvr at h
    obtain ⟨k', v, r, rfl, h2, h3, h4⟩ := h
    rw [List.any_cons, List.any_cons, kvr.any h4 hd, sameK_iff h2 hd]
theorem kvr.repl {d x : D} {k : Key} {w : V} (hd : kyD d = some k) (hx : rep K S H x w) : ∀ {l : List (D × D)} {ks : List (Key × V)}, kvr K S H l ks → kvr K S H (l.map fun p => if sameK p.1 d = true then (p.1, x) else p) (ks.map fun kv => if kv.1 = k then (kv.1, w) else kv)
  | [], _, h => by unfold kvr at h; subst h; simp [kvr]
  | p :: l, _, h => by
    unfold kvr at h
    obtain ⟨k', v, r, rfl, h2, h3, h4⟩ := h
    have hs := sameK_iff h2 hd
    rw [List.map_cons, List.map_cons]
    unfold kvr
    by_cases e : k' = k
    · have hs' : sameK p.1 d = true := by rw [hs]; exact decide_eq_true e
      rw [if_pos hs', if_pos e]
      exact ⟨k', w, _, rfl, h2, hx, kvr.repl hd hx h4⟩
    · have hs' : ¬ sameK p.1 d = true := by rw [hs]; simpa using e
      rw [if_neg hs', if_neg e]
      exact ⟨k', v, _, rfl, h2, h3, kvr.repl hd hx h4⟩
theorem kvr.snoc {d x : D} {k : Key} {w : V} (hd : kyD d = some k) (hx : rep K S H x w) : ∀ {l : List (D × D)} {ks : List (Key × V)}, kvr K S H l ks → kvr K S H (l ++ [(d, x)]) (ks ++ [(k, w)])
  | [], _, h => by
    unfold kvr at h
    subst h
    show kvr K S H [(d, x)] [(k, w)]
    unfold kvr
    exact ⟨k, w, [], rfl, hd, hx, by simp [kvr]⟩
  | p :: l, _, h => by
    unfold kvr at h
    obtain ⟨k', v, r, rfl, h2, h3, h4⟩ := h
    show kvr K S H (p :: (l ++ [(d, x)])) ((k', v) :: (r ++ [(k, w)]))
    unfold kvr
    exact ⟨k', v, _, rfl, h2, h3, kvr.snoc hd hx h4⟩
theorem kvr.put {l : List (D × D)} {ks : List (Key × V)} {d x : D} {k : Key} {w : V} (h : kvr K S H l ks) (hd : kyD d = some k) (hx : rep K S H x w) : kvr K S H (dPut l d x) (putK ks k w) := by
  unfold dPut putK
  rw [h.any hd]
  split
  · exact kvr.repl hd hx h
  · exact kvr.snoc hd hx h
end
/-- a dict of one's own is changed -/
theorem Wd.dict {K : PySem.W.Frag} {S : SP'} {H : Hp} {e : En} {fp : List Addr} {σ : L2.St} {k : Nat} {l : List (D × D)} (wd : Wd K S H e fp σ) (he : e[k]? = some (some (.dc l))) :
    ∃ a ks, σ[k]? = some (some (.ref a)) ∧ H a = some (.dK ks) ∧ kvr K S H l ks ∧ ∀ l' ks', kvr K S H l' ks' →
      Wd K S (upd H a (.dK ks')) (e.set k (some (.dc l'))) fp σ ∧ Ext S H fp S (upd H a (.dK ks')) fp := by
  obtain ⟨v, f1, f2, f3, q1, q2, q3, q4⟩ := wd.env.at he
  obtain ⟨a, ks, e1, e2, e3, e4⟩ := q3
  subst e1 e2 q2
  have nS : ¬ S a := wd.sep.ns a (by simp)
  refine ⟨a, ks, q1, e3, e4, fun l' ks' r => ?_⟩
  have st : Stb S H S (upd H a (.dK ks')) := ⟨fun _ h => h, fun b o h q => by
    by_cases hb : b = a
    · subst hb; rw [e3] at h; cases h; exact q.elim
    · rw [upd_ne hb]; exact h⟩
  have env := q4 S (upd H a (.dK ks')) (some (.dc l')) [a] (some (.ref a)) st (fun b hb => upd_ne (mid_ne wd.sep.nd (by simp) hb)) ⟨_, rfl, a, ks', rfl, rfl, upd_same, kvr.stb st _ _ r⟩
  rw [set_same q1] at env
  refine ⟨⟨env, ⟨wd.sep.nd, wd.sep.ns, fun b hb => ?_⟩, fun b hb => ?_⟩, ⟨fun b o h hm => ?_, fun b hb => .inl hb, fun _ h => h, fun _ h => .inl h⟩⟩
  · by_cases z : b = a
    · subst z; exact ⟨_, upd_same, trivial⟩
    · rw [upd_ne z]; exact wd.sep.ow b hb
  · obtain ⟨xs, h⟩ := wd.dom b hb
    exact ⟨xs, by rw [upd_ne (show b ≠ a from fun z => by subst z; exact nS hb)]; exact h⟩
  · rw [upd_ne (show b ≠ a from fun z => by subst z; exact hm (by simp))]; exact h
section
variable {X : Cx} {W : WX} {a b c : Expr} {pos : Pos} {m n : M Vl}
theorem de_dget (k : Nat) {x : Str} {p : Pos} (hu : X.A.units + 1 < cLine) (hb : DE X W b n) (hN : X.N[k]? = some x := by rfl) (hv : Vis X.env.scope x := by first | exact Or.inl rfl | exact Or.inr (Or.inl rfl) | exact Or.inr (Or.inr rfl)) (hd : (x == ("__debug__" : Str)) = false := by decide)
    (hcd : (x == ("__classdict__" : Str)) = false := by decide) (hs : NoSl b := by exact fun _ _ => rfl) : DE X W (.Subscript (.Name x p) b pos) (eDget k n) := by
  refine ⟨PEm (pe_dget hu (pe_var hN hv hd hcd) hb.p hs) fun σ H Q h => ?_⟩
  obtain ⟨S, e, fp, wd, p⟩ := h
  unfold eDget at p
  split at p
  · rename_i l0 he
    obtain ⟨a0, ks0, hv0, _⟩ := wd.dict he
    refine ⟨.ref a0, hv0, ?_⟩
    refine TR.bind (R' := repV X.K) (k := fun y e => (match e[k]?, y with
      | some (some (.dc l)), .v d => if isK d then lift ((dGet l d).map .v) e else .bad
      | _, _ => .bad)) (Q := Q) ⟨S, e, fp, wd, p⟩ fun S0 e0 fp0 S1 H1 e1 fp1 fy y w wd0 ext wd1 sep1 ry p1 => ?_
    split at p1
    · rename_i l d hl
      split at p1
      · rename_i hk
        obtain ⟨kk, hkk⟩ := kyD_of hk
        obtain ⟨a1, ks, g1, g2, g3, _⟩ := wd1.dict hl
        rw [hv0] at g1
        cases g1
        cases hg : dGet l d with
        | none => rw [hg] at p1; exact p1.elim
        | some z =>
          rw [hg] at p1
          obtain ⟨v, v1, v2⟩ := (g3.get hkk).2 z hg
          refine ⟨a0, v, rfl, ?_, p1 S1 H1 fp1 [] v ext.drop wd1 wd1.sep ⟨rfl, v2⟩⟩
          rw [key_kV hkk ry.2, ← v1]
          exact DGet.k g2
      · exact p1.elim
    · exact p1.elim
  · exact p.elim
/-! k in d -/
def rDin (neg : Bool) : R2 := fun x y H Q => ∃ a o, y = .ref a ∧ DGet H a x o ∧ Q (.bl (if neg then !o.isSome else o.isSome)) H
theorem op_din (hu : X.A.units + 1 < cLine) : OpR X (compareOp .In) (rDin false) := by
  intro pins s σ H x y v u Q I rx ry h
  obtain ⟨a, o, rfl, g, q⟩ := h
  obtain rfl : u = Value.ref a := ry
  exact d_in hu I g rx fun s' I' => ⟨.bl o.isSome, H, I', rfl, q⟩
theorem op_dnotin (hu : X.A.units + 1 < cLine) : OpR X (compareOp .NotIn) (rDin true) := by
  intro pins s σ H x y v u Q I rx ry h
  obtain ⟨a, o, rfl, g, q⟩ := h
  obtain rfl : u = Value.ref a := ry
  exact d_notIn hu I g rx fun s' I' => ⟨.bl (!o.isSome), H, I', rfl, q⟩
theorem din_tr (neg : Bool) (k : Nat) {σ : L2.St} {H : Hp} {Q : VK} (h : TR X.K X.mg W (repV X.K) (eDin neg k m) σ H Q) : tOp (rDin neg) (TR X.K X.mg W (repV X.K) m) (tVar k) σ H Q := by
  have h' : TR X.K X.mg W (repV X.K) (fun e => (m e).then (kDin neg k)) σ H Q := h
  refine TR.bind (R' := repV X.K) (Q := Q) (k := kDin neg k) h' fun S e fp S1 H1 e1 fp1 fx y v wd ext wd1 sep1 ry p1 => ?_
  unfold kDin at p1
  split at p1
  · rename_i l d hl
    split at p1
    · rename_i hk
      obtain ⟨kk, hkk⟩ := kyD_of hk
      obtain ⟨a1, ks, g1, g2, g3, _⟩ := wd1.dict hl
      refine ⟨.ref a1, g1, a1, valV ks kk, rfl, ?_, ?_⟩
      · rw [key_kV hkk ry.2]
        exact DGet.k g2
      · rw [← (g3.get hkk).1]
        exact p1 S1 H1 fp1 [] _ ext.drop wd1 wd1.sep ⟨rfl, rep_bl _⟩
    · exact p1.elim
  · exact p1.elim
theorem de_din (k : Nat) {x : Str} {p : Pos} (hu : X.A.units + 1 < cLine) (ha : DE X W a m) (hN : X.N[k]? = some x := by rfl) (hv : Vis X.env.scope x := by first | exact Or.inl rfl | exact Or.inr (Or.inl rfl) | exact Or.inr (Or.inr rfl)) (hd : (x == ("__debug__" : Str)) = false := by decide)
    (hcd : (x == ("__classdict__" : Str)) = false := by decide) (hm : behindInMarks .In (.Name x p) = false := by first | exact nobehind _ (by decide) (by decide) | rfl) : DE X W (.Compare a [.In] [.Name x p] pos) (eDin false k m) :=
  ⟨PEm (pe_cmpR (op_din hu) ha.p (pe_var hN hv hd hcd) hm) fun σ H Q h => din_tr false k h⟩
theorem de_dnotin (k : Nat) {x : Str} {p : Pos} (hu : X.A.units + 1 < cLine) (ha : DE X W a m) (hN : X.N[k]? = some x := by rfl) (hv : Vis X.env.scope x := by first | exact Or.inl rfl | exact Or.inr (Or.inl rfl) | exact Or.inr (Or.inr rfl)) (hd : (x == ("__debug__" : Str)) = false := by decide)
    (hcd : (x == ("__classdict__" : Str)) = false := by decide) (hm : behindInMarks .NotIn (.Name x p) = false := by first | exact nobehind _ (by decide) (by decide) | rfl) : DE X W (.Compare a [.NotIn] [.Name x p] pos) (eDin true k m) :=
  ⟨PEm (pe_cmpR (op_dnotin hu) ha.p (pe_var hN hv hd hcd) hm) fun σ H Q h => din_tr true k h⟩
theorem dt_din (k : Nat) {x : Str} {p : Pos} (hu : X.A.units + 1 < cLine) (ha : DE X W a m) (hN : X.N[k]? = some x := by rfl) (hv : Vis X.env.scope x := by first | exact Or.inl rfl | exact Or.inr (Or.inl rfl) | exact Or.inr (Or.inr rfl)) (hd : (x == ("__debug__" : Str)) = false := by decide)
    (hcd : (x == ("__classdict__" : Str)) = false := by decide) (hm : behindInMarks .In (.Name x p) = false := by first | exact nobehind _ (by decide) (by decide) | rfl) : DT X W (.Compare a [.In] [.Name x p] pos) (Fx.tB (eDin false k m)) :=
  ⟨PTm (pt_cmpR (op_din hu) ha.p (pe_var hN hv hd hcd) hm) fun σ H Q q => ttest (fun σ H Q h => din_tr false k h) q⟩
theorem dt_dnotin (k : Nat) {x : Str} {p : Pos} (hu : X.A.units + 1 < cLine) (ha : DE X W a m) (hN : X.N[k]? = some x := by rfl) (hv : Vis X.env.scope x := by first | exact Or.inl rfl | exact Or.inr (Or.inl rfl) | exact Or.inr (Or.inr rfl)) (hd : (x == ("__debug__" : Str)) = false := by decide)
    (hcd : (x == ("__classdict__" : Str)) = false := by decide) (hm : behindInMarks .NotIn (.Name x p) = false := by first | exact nobehind _ (by decide) (by decide) | rfl) : DT X W (.Compare a [.NotIn] [.Name x p] pos) (Fx.tB (eDin true k m)) :=
  ⟨PTm (pt_cmpR (op_dnotin hu) ha.p (pe_var hN hv hd hcd) hm) fun σ H Q q => ttest (fun σ H Q h => din_tr true k h) q⟩
/-! d[k] = v -/
def rDput : V → V → V → Hp → (Hp → Prop) → Prop := fun o i v H Q => ∃ a ks k, o = .ref a ∧ i = kV k ∧ H a = some (.dK ks) ∧ ks.length < sizeLine ∧ Q (upd H a (.dK (putK ks k v)))
theorem set_dict (hu : X.A.units + 1 < cLine) : PSet X rDput := by
  intro pins s σ H o i v ov iv u Q I ro ri rv h
  obtain ⟨a, ks, k, rfl, rfl, ha, hl, q⟩ := h
  obtain rfl : ov = Value.ref a := ro
  exact d_setItem hu I (DPut.k ha hl) ri rv fun s' I' => ⟨_, I', q⟩
theorem dg_dput (k : Nat) {x : Str} {p : Pos} (hu : X.A.units + 1 < cLine) (ha : DE X W a m) (hN : X.N[k]? = some x := by rfl) (hv : Vis X.env.scope x := by first | exact Or.inl rfl | exact Or.inr (Or.inl rfl) | exact Or.inr (Or.inr rfl)) (hd : (x == ("__debug__" : Str)) = false := by decide)
    (hcd : (x == ("__classdict__" : Str)) = false := by decide) (hasg : ∀ v, assign (.Subscript (.Name x p) a pos) X.env v = (do
      let ov ← holding [v] (eval (.Name x p) X.env)
      let iv ← holding [v, ov] (eval a X.env)
      standAt pos
      holding [v, ov, iv] (setItem ov iv v)
      release [v, ov, iv] []) := by intro _; rfl) : DG X [] (.Subscript (.Name x p) a pos) (gDput k m) := by
  refine ⟨PGm (pg_sub (pe_var hN hv hd hcd) ha.p (set_dict hu) hasg) fun v σ H Q ⟨S, e, fp, d, e', wd, r, h, q⟩ => ?_⟩
  unfold gDput at h
  split at h
  · rename_i l0 he0
    obtain ⟨a0, ks0, g1, _⟩ := wd.dict he0
    refine ⟨.ref a0, g1, S, e, fp, wd, ?_⟩
    split at h
    · rename_i kd e1 hm
      rw [hm]
      intro S' H' fp' fx iv ext wd' sep rx
      split at h
      · rename_i l he
        split at h
        · rename_i hz
          cases h
          obtain ⟨kk, hkk⟩ := kyD_of hz.1
          obtain ⟨a1, ks, h1, h2, h3, h4⟩ := wd'.dict he
          rw [g1] at h1
          cases h1
          have r' : rep X.K S' H' d v := rep.stb (ext.stb wd.sep) d v r
          obtain ⟨wd2, ext2⟩ := h4 (dPut l kd d) (putK ks kk v) (h3.put hkk r')
          exact ⟨a0, ks, kk, rfl, key_kV hkk rx.2, h2, by rw [← h3.len, ← lim_eq]; exact hz.2, q σ S' _ fp' (ext.drop.trans ext2) wd2 (Out1.refl _ _)⟩
        · cases h
      · cases h
    · cases h
  · cases h
end
end Fx
end

section
/-! Dat7: a dict of words, told by constants. -/
namespace Fx
/-- {"a": "b", ..} -/
def sdisp (l : List (String × String)) : M Vl := fun e => .ok (.dc (l.foldl (fun acc p => dPut acc (.str p.1) (.str p.2)) [])) e
end Fx
end

section
set_option Elab.async false
set_option linter.all false
set_option maxRecDepth 100000
set_option maxHeartbeats 4000000
/-! Wdd: a dict of words, told by constants. -/
namespace Fx
open PySem PySem.Spec PyProof.Rows L2 PySem.W PySem.Calls
theorem hu1 {n : Nat} (h : n + 66 < cLine) : n + 1 < cLine := by omega
theorem upd_two (H : Hp) (p : Addr) (x y : HO) : upd (upd H p x) p y = upd H p y := by
  funext a
  by_cases h : a = p
  · subst h; rw [upd_same, upd_same]
  · rw [upd_ne h, upd_ne h, upd_ne h]
theorem fresh_dct {K : PySem.W.Frag} {S : SP'} {H : Hp} {ds : List (D × D)} {ks : List (Key × V)} {p : Addr} (r : kvr K S H ds ks) (hp : H p = none) (dom : ∀ a, S a → ∃ xs, H a = some (.lst xs)) :
    (∀ a o, H a = some o → upd H p (.dK ks) a = some o) ∧ (∀ a ∈ [p], H a = none) ∧ Sep S (upd H p (.dK ks)) [p] ∧ repV K S (upd H p (.dK ks)) (.dc ds) [p] (.ref p) := by
  have k : ∀ a o, H a = some o → upd H p (.dK ks) a = some o := fun a o h => by rw [upd_ne (ne_of_none h hp)]; exact h
  refine ⟨k, fun a q => ?_, ⟨by simp, fun a q z => ?_, fun a q => ?_⟩, p, ks, rfl, rfl, upd_same, kvr.stb (Stb.grow k) ds ks r⟩
  · simp at q; subst q; exact hp
  · simp at q; subst q
    obtain ⟨xs, e⟩ := dom a z
    rw [hp] at e; cases e
  · simp at q; subst q; exact ⟨_, upd_same, trivial⟩
def sVs (l : List (String × String)) : List (Key × V) := l.map fun p => ((.inr (Str.ofString p.1) : Key), V.str (Str.ofString p.2))
def sTs (l : List (String × String)) : List (TE × TE) := l.map fun p => (tC (.str (Str.ofString p.1)), tC (.str (Str.ofString p.2)))
theorem sT_run (σ : L2.St) (H : Hp) : ∀ (l : List (String × String)) (k : List (V × V) → Hp → Prop), k ((sVs l).map fun kv => (kV kv.1, kv.2)) H → tPairs (sTs l) σ H k
  | [], k, h => h
  | p :: l, k, h => by
    show tPairs (sTs l) σ H fun ps H3 => k (_ :: ps) H3
    exact sT_run σ H l _ h
theorem sD_rel {K : PySem.W.Frag} {S : SP'} {H : Hp} : ∀ (l : List (String × String)) (acc : List (D × D)) (ks : List (Key × V)), kvr K S H acc ks → kvr K S H (l.foldl (fun acc p => dPut acc (.str p.1) (.str p.2)) acc) (mergeK ks (sVs l))
  | [], acc, ks, h => h
  | p :: l, acc, ks, h => by
    show kvr K S H (l.foldl _ _) (mergeK (putK ks _ _) (sVs l))
    exact sD_rel l _ _ (h.put rfl (by unfold rep; rfl))
section
variable {X : Cx} {W : WX} {pos : Pos}
theorem de_sdisp {l : List (String × String)} {keys : List (Option Expr)} {values : List Expr} (h : PPs X pos keys values (sTs l)) (hall : keys.all (·.isSome) = true := by rfl) (hl : keys.length = values.length := by rfl) (h0 : keys ≠ [] := by simp)
    (h15 : keys.length ≤ 15 := by decide) (hz : l.length ≤ 15 := by decide) : DE X W (.Dict keys values pos) (sdisp l) := by
  refine ⟨PEm (pe_disp h hall hl h0 h15) fun σ H Q q => ?_⟩
  obtain ⟨S, e, fp, wd, p⟩ := q
  intro pp hp
  refine sT_run σ _ l _ ⟨upd_same, sVs l, rfl, by unfold sVs; rw [List.length_map]; exact hz, ?_⟩
  rw [upd_two]
  have r : kvr X.K S H (l.foldl (fun acc p => dPut acc (.str p.1) (.str p.2)) []) (mergeK [] (sVs l)) := sD_rel l [] [] (by unfold kvr; rfl)
  obtain ⟨k, fr, sp, rt⟩ := fresh_dct r hp wd.dom
  exact p S _ fp [pp] _ ((Ext.refl S H fp).grow k fr) (wd.grow k) (wd.sep.grow sp k fr) rt
theorem pps_s {k v : String} {kp vp : Pos} {kj vj : Nat} {l : List (String × String)} {ks : List (Option Expr)} {vs : List Expr} (h : PPs X pos ks vs (sTs l)) :
    PPs X pos (some (.Constant (.str (Str.ofString k)) kj kp) :: ks) (.Constant (.str (Str.ofString v)) vj vp :: vs) (sTs ((k, v) :: l)) := pps_cons pe_str pe_str h
theorem pps_0 : PPs X pos [] [] (sTs []) := pps_nil
end
end Fx
end

section
set_option maxRecDepth 100000
set_option maxHeartbeats 4000000
set_option linter.all false
/-! LAW_D: the defs of a law as plain functions (written by gen.py). -/
namespace Fx
namespace G
noncomputable section
/-- is_integer: value 0 -/
def c_is_integer : C :=
  (sRet (eAnd (e1 (oIsA .tInt) (eP 0)) (e1 oNot (e1 (oIsA .tBool) (eP 0)))))
def F_is_integer : F := runDef 1 [] c_is_integer
/-- check_words: one 0, other 1, costs 2, word 3, sign 4, each 5 -/
def check_words_0l0t1 : M Bool := (tOr (tNot (tT (e1 (oIsA .tTuple) (eP 3)))) (tOr (tB (e2 oGt (e1 oLen (eP 3)) (eC (.int 8)))) (tT (e1 oAny (eComp [4] (iL (eV 3)) (gN 4) tYes (e1 oNot (eCall F_is_integer [.va (eV 4)])))))))
def check_words_0l0a0 : C := (sRaise "WordError" (eC (.str "word")))
def check_words_0l0 : C := (sIf check_words_0l0t1 check_words_0l0a0 sNil)
def check_words_0 : C := (sFor (iL (eTup (eCons (eV 0) (eCons (eV 1) eNil)))) (gN 3) check_words_0l0)
def check_words_1x1 : M Vl := (eOr (e1 oNot (eCall F_is_integer [.va (eV 5)])) (e2 oLe (eV 5) (eC (.int 0))))
def check_words_1t1 : M Bool := (tOr (tNot (tT (e1 (oIsA .tTuple) (eP 2)))) (tOr (tB (e2 oNe (e1 oLen (eP 2)) (eC (.int 3)))) (tT (e1 oAny (eComp [5] (iL (eV 2)) (gN 5) tYes check_words_1x1)))))
def check_words_1a0 : C := (sRaise "WordError" (eC (.str "costs")))
def check_words_1 : C := (sIf check_words_1t1 check_words_1a0 sNil)
def c_check_words : C :=
  (sSeq check_words_0
  check_words_1)
def F_check_words : F := runDef 6 [] c_check_words
/-- edit_table: one 0, other 1, costs 2, drop 3, add 4, change 5, rows 6, sign 7, row 8, at 9, another 10, same 11 -/
def edit_table_0 : C := (sDrop (eCall F_check_words [.va (eV 0), .va (eV 1), .va (eV 2)]))
def edit_table_1 : C := (sTo (gL [(gN 3), (gN 4), (gN 5)]) (eV 2))
def edit_table_2 : C := (sSet 6 (eLst (eCons (eComp [9] (iR1 (e2 oAdd (e1 oLen (eP 1)) (eC (.int 1)))) (gN 9) tYes (e2 oMul (eV 9) (eV 4))) eNil)))
def edit_table_3l0 : C := (sSet 8 (eLst (eCons (e2 oAdd (e2 oIx (eIxP 6 (e1 oNeg (eC (.int 1)))) (eC (.int 0))) (eV 3)) eNil)))
def edit_table_3l1l0 : C := (sSet 11 (e2 oAdd (e2 oIx (eIxP 6 (e1 oNeg (eC (.int 1)))) (eV 9)) (eIf (tB (e2 oEq (eV 7) (eV 10))) (eC (.int 0)) (eV 5))))
def edit_table_3l1l1 : C := (sDrop (mApp 8 (eArgs minI3 (eCons (e2 oAdd (e2 oIx (eIxP 6 (e1 oNeg (eC (.int 1)))) (e2 oAdd (eV 9) (eC (.int 1)))) (eV 3)) (eCons (e2 oAdd (eIxP 8 (e1 oNeg (eC (.int 1)))) (eV 4)) (eCons (eV 11) eNil))))))
def edit_table_3l1 : C := (sFor (iEnum (eV 1)) (gT [(gN 9), (gN 10)]) (sSeq edit_table_3l1l0
  edit_table_3l1l1))
def edit_table_3L1 : C := (sSeq edit_table_3l0
  (sSeq edit_table_3l1
  (sDrop (mApp 6 (eV 8)))))
def edit_table_3 : C := (sFor (iL (eV 0)) (gN 7) edit_table_3L1)
def edit_table_4 : C := (sRet (e1 oTuple (eComp [8] (iL (eV 6)) (gN 8) tYes (e1 oTuple (eP 8)))))
def c_edit_table : C :=
  (sSeq edit_table_0
  (sSeq edit_table_1
  (sSeq edit_table_2
  (sSeq edit_table_3
  edit_table_4))))
def F_edit_table : F := runDef 12 [] c_edit_table
/-- edit_paper: one 0, other 1, costs 2, table 3, drop 4, add 5, change 6, left 7, right 8, script 9, now 10 -/
def edit_paper_0 : C := (sSet 3 (eCall F_edit_table [.va (eV 0), .va (eV 1), .va (eV 2)]))
def edit_paper_1 : C := (sTo (gL [(gN 4), (gN 5), (gN 6)]) (eV 2))
def edit_paper_2 : C := (sPar 7 8 (eCons (e1 oLen (eP 0)) (eCons (e1 oLen (eP 1)) eNil)))
def edit_paper_4l0 : C := (sSet 10 (e2 oIx (eIxP 3 (eV 7)) (eV 8)))
def edit_paper_4l1t1 : M Bool := (tAnd (tB (e2 oGt (eV 7) (eC (.int 0)))) (tAnd (tB (e2 oGt (eV 8) (eC (.int 0)))) (tAnd (tB (e2 oEq (eIxP 0 (e2 oSub (eV 7) (eC (.int 1)))) (eIxP 1 (e2 oSub (eV 8) (eC (.int 1)))))) (tB (e2 oEq (e2 oIx (eIxP 3 (e2 oSub (eV 7) (eC (.int 1)))) (e2 oSub (eV 8) (eC (.int 1)))) (eV 10))))))
def edit_paper_4l1a0 : C := (sDrop (mApp 9 (eC (.str "keep"))))
def edit_paper_4l1a1 : C := (sPar 7 8 (eCons (e2 oSub (eV 7) (eC (.int 1))) (eCons (e2 oSub (eV 8) (eC (.int 1))) eNil)))
def edit_paper_4l1b0t1 : M Bool := (tAnd (tB (e2 oGt (eV 7) (eC (.int 0)))) (tAnd (tB (e2 oGt (eV 8) (eC (.int 0)))) (tB (e2 oEq (e2 oAdd (e2 oIx (eIxP 3 (e2 oSub (eV 7) (eC (.int 1)))) (e2 oSub (eV 8) (eC (.int 1)))) (eV 6)) (eV 10)))))
def edit_paper_4l1b0a0 : C := (sDrop (mApp 9 (eC (.str "change"))))
def edit_paper_4l1b0a1 : C := (sPar 7 8 (eCons (e2 oSub (eV 7) (eC (.int 1))) (eCons (e2 oSub (eV 8) (eC (.int 1))) eNil)))
def edit_paper_4l1b0b0t1 : M Bool := (tAnd (tB (e2 oGt (eV 7) (eC (.int 0)))) (tB (e2 oEq (e2 oAdd (e2 oIx (eIxP 3 (e2 oSub (eV 7) (eC (.int 1)))) (eV 8)) (eV 4)) (eV 10))))
def edit_paper_4l1b0b0a0 : C := (sDrop (mApp 9 (eC (.str "drop"))))
def edit_paper_4l1b0b0a1 : C := (sAug 7 (fun x y => x - y) (eC (.int 1)))
def edit_paper_4l1b0b0b0 : C := (sDrop (mApp 9 (eC (.str "add"))))
def edit_paper_4l1b0b0b1 : C := (sAug 8 (fun x y => x - y) (eC (.int 1)))
def edit_paper_4l1b0b0 : C := (sIf edit_paper_4l1b0b0t1 (sSeq edit_paper_4l1b0b0a0
  edit_paper_4l1b0b0a1) (sSeq edit_paper_4l1b0b0b0
  edit_paper_4l1b0b0b1))
def edit_paper_4l1b0 : C := (sIf edit_paper_4l1b0t1 (sSeq edit_paper_4l1b0a0
  edit_paper_4l1b0a1) edit_paper_4l1b0b0)
def edit_paper_4l1 : C := (sIf edit_paper_4l1t1 (sSeq edit_paper_4l1a0
  edit_paper_4l1a1) edit_paper_4l1b0)
def edit_paper_4t1 : M Bool := (tOr (tB (e2 oGt (eV 7) (eC (.int 0)))) (tB (e2 oGt (eV 8) (eC (.int 0)))))
def edit_paper_4 : C := (sWhile edit_paper_4t1 (sSeq edit_paper_4l0
  edit_paper_4l1))
def edit_paper_5 : C := (sRet (eTup (eCons (e2 oIx (eIxP 3 (e1 oNeg (eC (.int 1)))) (e1 oNeg (eC (.int 1)))) (eCons (e1 oTuple (e1 oRv (eV 9))) (eCons (eV 3) eNil)))))
def c_edit_paper : C :=
  (sSeq edit_paper_0
  (sSeq edit_paper_1
  (sSeq edit_paper_2
  (sSeq (sSet 9 (eLst eNil))
  (sSeq edit_paper_4
  edit_paper_5)))))
def F_edit_paper : F := runDef 11 [] c_edit_paper
/-- script_cost: one 0, other 1, costs 2, script 3, drop 4, add 5, change 6, left 7, right 8, total 9, word 10 -/
def script_cost_0 : C := (sTo (gL [(gN 4), (gN 5), (gN 6)]) (eV 2))
def script_cost_1 : C := (sTo (gT [(gN 7), (gN 8), (gN 9)]) (eTup (eCons (eC (.int 0)) (eCons (eC (.int 0)) (eCons (eC (.int 0)) eNil)))))
def script_cost_2l0t1 : M Bool := (tB (e2 oIn (eV 10) (eTup (eCons (eC (.str "keep")) (eCons (eC (.str "change")) eNil)))))
def script_cost_2l0a0t1 : M Bool := (tOr (tB (e2 oGe (eV 7) (e1 oLen (eP 0)))) (tOr (tB (e2 oGe (eV 8) (e1 oLen (eP 1)))) (tAnd (tB (e2 oEq (eV 10) (eC (.str "keep")))) (tB (e2 oNe (eIxP 0 (eV 7)) (eIxP 1 (eV 8)))))))
def script_cost_2l0a0 : C := (sIf script_cost_2l0a0t1 (sRet (eC .non)) sNil)
def script_cost_2l0a1 : C := (sAug 9 (fun x y => x + y) (eIf (tB (e2 oEq (eV 10) (eC (.str "change")))) (eV 6) (eC (.int 0))))
def script_cost_2l0a2 : C := (sPar 7 8 (eCons (e2 oAdd (eV 7) (eC (.int 1))) (eCons (e2 oAdd (eV 8) (eC (.int 1))) eNil)))
def script_cost_2l0b0a0 : C := (sPar 9 7 (eCons (e2 oAdd (eV 9) (eV 4)) (eCons (e2 oAdd (eV 7) (eC (.int 1))) eNil)))
def script_cost_2l0b0b0a0 : C := (sPar 9 8 (eCons (e2 oAdd (eV 9) (eV 5)) (eCons (e2 oAdd (eV 8) (eC (.int 1))) eNil)))
def script_cost_2l0b0b0 : C := (sIf (tB (e2 oEq (eV 10) (eC (.str "add")))) script_cost_2l0b0b0a0 (sRet (eC .non)))
def script_cost_2l0b0 : C := (sIf (tB (e2 oEq (eV 10) (eC (.str "drop")))) script_cost_2l0b0a0 script_cost_2l0b0b0)
def script_cost_2l0 : C := (sIf script_cost_2l0t1 (sSeq script_cost_2l0a0
  (sSeq script_cost_2l0a1
  script_cost_2l0a2)) script_cost_2l0b0)
def script_cost_2 : C := (sFor (iL (eV 3)) (gN 10) script_cost_2l0)
def script_cost_3 : C := (sRet (eIf (tB (e2 oEq (eTup (eCons (eV 7) (eCons (eV 8) eNil))) (eTup (eCons (e1 oLen (eP 0)) (eCons (e1 oLen (eP 1)) eNil))))) (eV 9) (eC .non)))
def c_script_cost : C :=
  (sSeq script_cost_0
  (sSeq script_cost_1
  (sSeq script_cost_2
  script_cost_3)))
def F_script_cost : F := runDef 11 [] c_script_cost
/-- is_table: table 0, high 1, wide 2, row 3, each 4 -/
def is_table_0t1 : M Bool := (tOr (tNot (tT (e1 (oIsA .tTuple) (eP 0)))) (tB (e2 oNe (e1 oLen (eP 0)) (eV 1))))
def is_table_0 : C := (sIf is_table_0t1 (sRet (eC (.bl false))) sNil)
def is_table_1l0t1 : M Bool := (tOr (tNot (tT (e1 (oIsA .tTuple) (eP 3)))) (tOr (tB (e2 oNe (e1 oLen (eP 3)) (eV 2))) (tT (e1 oAny (eComp [4] (iL (eV 3)) (gN 4) tYes (e1 oNot (eCall F_is_integer [.va (eV 4)])))))))
def is_table_1l0 : C := (sIf is_table_1l0t1 (sRet (eC (.bl false))) sNil)
def is_table_1 : C := (sFor (iL (eV 0)) (gN 3) is_table_1l0)
def c_is_table : C :=
  (sSeq is_table_0
  (sSeq is_table_1
  (sRet (eC (.bl true)))))
def F_is_table : F := runDef 5 [] c_is_table
/-- grows: one 0, other 1, costs 2, table 3, drop 4, add 5, change 6, left 7, right 8, now 9, step 10 -/
def grows_0 : C := (sTo (gL [(gN 4), (gN 5), (gN 6)]) (eV 2))
def grows_1l0l0 : C := (sSet 9 (e2 oIx (eIxP 3 (eV 7)) (eV 8)))
def grows_1l0l1t1 : M Bool := (tAnd (tB (e2 oGt (eV 7) (eC (.int 0)))) (tB (e2 oGt (eV 9) (e2 oAdd (e2 oIx (eIxP 3 (e2 oSub (eV 7) (eC (.int 1)))) (eV 8)) (eV 4)))))
def grows_1l0l1 : C := (sIf grows_1l0l1t1 (sRet (eC (.bl false))) sNil)
def grows_1l0l2t1 : M Bool := (tAnd (tB (e2 oGt (eV 8) (eC (.int 0)))) (tB (e2 oGt (eV 9) (e2 oAdd (e2 oIx (eIxP 3 (eV 7)) (e2 oSub (eV 8) (eC (.int 1)))) (eV 5)))))
def grows_1l0l2 : C := (sIf grows_1l0l2t1 (sRet (eC (.bl false))) sNil)
def grows_1l0l3t1 : M Bool := (tAnd (tB (e2 oGt (eV 7) (eC (.int 0)))) (tB (e2 oGt (eV 8) (eC (.int 0)))))
def grows_1l0l3a0 : C := (sSet 10 (eIf (tB (e2 oEq (eIxP 0 (e2 oSub (eV 7) (eC (.int 1)))) (eIxP 1 (e2 oSub (eV 8) (eC (.int 1)))))) (eC (.int 0)) (eV 6)))
def grows_1l0l3a1t1 : M Bool := (tB (e2 oGt (eV 9) (e2 oAdd (e2 oIx (eIxP 3 (e2 oSub (eV 7) (eC (.int 1)))) (e2 oSub (eV 8) (eC (.int 1)))) (eV 10))))
def grows_1l0l3a1 : C := (sIf grows_1l0l3a1t1 (sRet (eC (.bl false))) sNil)
def grows_1l0l3 : C := (sIf grows_1l0l3t1 (sSeq grows_1l0l3a0
  grows_1l0l3a1) sNil)
def grows_1l0L1 : C := (sSeq grows_1l0l0
  (sSeq grows_1l0l1
  (sSeq grows_1l0l2
  grows_1l0l3)))
def grows_1l0 : C := (sFor (iR1 (e2 oAdd (e1 oLen (eP 1)) (eC (.int 1)))) (gN 8) grows_1l0L1)
def grows_1 : C := (sFor (iR1 (e2 oAdd (e1 oLen (eP 0)) (eC (.int 1)))) (gN 7) grows_1l0)
def c_grows : C :=
  (sSeq grows_0
  (sSeq grows_1
  (sRet (eC (.bl true)))))
def F_grows : F := runDef 11 [] c_grows
/-- takes_edit: one 0, other 1, costs 2, paper 3, table 4, word 5 -/
def takes_edit_0 : C := (sDrop (eCall F_check_words [.va (eV 0), .va (eV 1), .va (eV 2)]))
def takes_edit_1t1 : M Bool := (tOr (tNot (tT (e1 (oIsA .tTuple) (eP 3)))) (tOr (tB (e2 oNe (e1 oLen (eP 3)) (eC (.int 3)))) (tOr (tNot (tT (eCall F_is_integer [.va (eIxP 3 (eC (.int 0)))]))) (tNot (tT (e1 (oIsA .tTuple) (eIxP 3 (eC (.int 1)))))))))
def takes_edit_1 : C := (sIf takes_edit_1t1 (sRet (eC (.bl false))) sNil)
def takes_edit_2t1 : M Bool := (tOr (tT (e1 oAny (eComp [5] (iL (eIxP 3 (eC (.int 1)))) (gN 5) tYes (e1 oNot (e1 (oIsA .tStr) (eP 5)))))) (tB (e2 oNe (eCall F_script_cost [.va (eV 0), .va (eV 1), .va (eV 2), .va (eIxP 3 (eC (.int 1)))]) (eIxP 3 (eC (.int 0))))))
def takes_edit_2 : C := (sIf takes_edit_2t1 (sRet (eC (.bl false))) sNil)
def takes_edit_3 : C := (sSet 4 (eIxP 3 (eC (.int 2))))
def takes_edit_4t1 : M Bool := (tOr (tNot (tT (eCall F_is_table [.va (eV 4), .va (e2 oAdd (e1 oLen (eP 0)) (eC (.int 1))), .va (e2 oAdd (e1 oLen (eP 1)) (eC (.int 1)))]))) (tOr (tB (e2 oNe (e2 oIx (eIxP 4 (eC (.int 0))) (eC (.int 0))) (eC (.int 0)))) (tB (e2 oNe (e2 oIx (eIxP 4 (e1 oNeg (eC (.int 1)))) (e1 oNeg (eC (.int 1)))) (eIxP 3 (eC (.int 0)))))))
def takes_edit_4 : C := (sIf takes_edit_4t1 (sRet (eC (.bl false))) sNil)
def takes_edit_5 : C := (sRet (eCall F_grows [.va (eV 0), .va (eV 1), .va (eV 2), .va (eV 4)]))
def c_takes_edit : C :=
  (sSeq takes_edit_0
  (sSeq takes_edit_1
  (sSeq takes_edit_2
  (sSeq takes_edit_3
  (sSeq takes_edit_4
  takes_edit_5)))))
def F_takes_edit : F := runDef 6 [] c_takes_edit
/-- common: one 0, other 1, cost 2 -/
def common_0 : C := (sSet 2 (e2 oIx (e2 oIx (eCall F_edit_table [.va (eV 0), .va (eV 1), .va (eTup (eCons (eC (.int 1)) (eCons (eC (.int 1)) (eCons (eC (.int 2)) eNil))))]) (e1 oNeg (eC (.int 1)))) (e1 oNeg (eC (.int 1)))))
def common_1 : C := (sRet (e2 oDiv (e2 oSub (e2 oAdd (e1 oLen (eP 0)) (e1 oLen (eP 1))) (eV 2)) (eC (.int 2))))
def c_common : C :=
  (sSeq common_0
  common_1)
def F_common : F := runDef 3 [] c_common
/-- _law_begin: script 0, seed 1, cell 2 -/
def c__law_begin : C :=
  (sSeq (sSet 1 (eC (.int 5)))
  (sSeq (sFor (iL (eV 0)) (gN 2) (sSet 1 (e2 oMod (e2 oAdd (e2 oAdd (e2 oMul (eV 1) (eC (.int 48271))) (e2 oMod (e1 oInt (eP 2)) (eC (.int 2147483629)))) (eC (.int 11))) (eC (.int 2147483647)))))
  (sRet (eLst (eCons (e1 oList (eP 0)) (eCons (eC (.int 0)) (eCons (eC (.int 0)) (eCons (eV 1) eNil))))))))
def F__law_begin : F := runDef 3 [] c__law_begin
/-- _law_take: d 0, many 1, small 2, digit 3 -/
def c__law_take : C :=
  (sSeq (sIf (tAnd (tB (e2 oEq (eIxP 0 (eC (.int 2))) (eC (.int 0)))) (tB (e2 oLt (eIxP 0 (eC (.int 1))) (e1 oLen (eIxP 0 (eC (.int 0))))))) (sSeq (sTo (gIx 0 (nI 2)) (e1 oAbs (e1 oInt (e2 oIx (eIxP 0 (eC (.int 0))) (eIxP 0 (eC (.int 1)))))))
  (sSeq (sTo (gIx 0 (nI 1)) (e2 oAdd (eIxP 0 (eC (.int 1))) (eC (.int 1))))
  (sIf (tB (e2 oLt (eIxP 0 (eC (.int 2))) (e2 oPow (eC (.int 10)) (eC (.int 18))))) (sSeq (sSet 2 (e1 oInt (eIxP 0 (eC (.int 2)))))
  (sSeq (sTo (gIx 0 (nI 2)) (eC (.int 0)))
  (sRet (e2 oMod (eV 2) (eV 1))))) sNil))) sNil)
  (sSeq (sIf (tB (e2 oGt (eIxP 0 (eC (.int 2))) (eC (.int 0)))) (sSeq (sSet 3 (e2 oMod (e1 oInt (eIxP 0 (eC (.int 2)))) (eV 1)))
  (sSeq (sTo (gIx 0 (nI 2)) (e2 oDiv (e1 oInt (eIxP 0 (eC (.int 2)))) (eV 1)))
  (sRet (eV 3)))) sNil)
  (sSeq (sTo (gIx 0 (nI 3)) (e2 oMod (e1 oInt (e2 oAdd (e2 oMul (eIxP 0 (eC (.int 3))) (eC (.int 69621))) (eC (.int 7)))) (eC (.int 2147483647))))
  (sRet (e2 oMod (e1 oInt (e2 oDiv (eIxP 0 (eC (.int 3))) (eC (.int 5)))) (eV 1))))))
def F__law_take : F := runDef 4 [0] c__law_take
/-- _law_least: one 0, other 1, costs 2 -/
def _law_least_0 : C := (sRet (e2 oIx (e2 oIx (eCall F_edit_table [.va (eV 0), .va (eV 1), .va (eV 2)]) (e1 oNeg (eC (.int 1)))) (e1 oNeg (eC (.int 1)))))
def c__law_least : C :=
  _law_least_0
def F__law_least : F := runDef 3 [] c__law_least
/-- law: script 0, d 1, words 2, one 3, other 4, third 5, fourth 6, costs 7, back 8, low 9, cost 10, script_of 11, table 12, kinds 13, turned 14, other_table 15, dear 16, best 17, some 18, x 19, k 20, word 21 -/
def law_0 : C := (sSet 1 (eCall F__law_begin [.va (eV 0)]))
def law_1x1 : M Vl := (e1 oTuple (eComp [20] (iR1 (eCall F__law_take [.lent 1, .va (eC (.int 5))])) (gN 20) tYes (eCall F__law_take [.lent 1, .va (eC (.int 3))])))
def law_1 : C := (sSet 2 (eComp [19] (iR1 (eC (.int 4))) (gN 19) tYes law_1x1))
def law_2 : C := (sTo (gL [(gN 3), (gN 4), (gN 5), (gN 6)]) (eV 2))
def law_3 : C := (sSet 7 (eTup (eCons (e2 oAdd (eC (.int 1)) (eCall F__law_take [.lent 1, .va (eC (.int 5))])) (eCons (e2 oAdd (eC (.int 1)) (eCall F__law_take [.lent 1, .va (eC (.int 5))])) (eCons (e2 oAdd (eC (.int 1)) (eCall F__law_take [.lent 1, .va (eC (.int 5))])) eNil)))))
def law_4 : C := (sSet 8 (eTup (eCons (eIxP 7 (eC (.int 1))) (eCons (eIxP 7 (eC (.int 0))) (eCons (eIxP 7 (eC (.int 2))) eNil)))))
def law_5 : C := (sSet 9 (eCall F__law_least [.va (eV 3), .va (eV 4), .va (eV 7)]))
def law_6t1 : M Bool := (tOr (tB (e2 oNe (eCall F__law_least [.va (e1 oRv (eV 3)), .va (e1 oRv (eV 4)), .va (eV 7)]) (eV 9))) (tOr (tB (e2 oNe (eCall F__law_least [.va (eV 4), .va (eV 3), .va (eV 8)]) (eV 9))) (tB (e2 oNe (e2 oEq (eV 9) (eC (.int 0))) (e2 oEq (eV 3) (eV 4))))))
def law_6 : C := (sIf law_6t1 (sRet (eC (.bl false))) sNil)
def law_7t1 : M Bool := (tB (e2 oGt (eCall F__law_least [.va (e2 oAdd (eV 3) (eV 5)), .va (e2 oAdd (eV 4) (eV 6)), .va (eV 7)]) (e2 oAdd (eV 9) (eCall F__law_least [.va (eV 5), .va (eV 6), .va (eV 7)]))))
def law_7 : C := (sIf law_7t1 (sRet (eC (.bl false))) sNil)
def law_8t1 : M Bool := (tB (e2 oGt (eCall F__law_least [.va (eV 3), .va (eV 4), .va (eV 7)]) (e2 oAdd (eCall F__law_least [.va (eV 3), .va (eV 5), .va (eV 7)]) (eCall F__law_least [.va (eV 5), .va (eV 4), .va (eV 7)]))))
def law_8 : C := (sIf law_8t1 (sRet (eC (.bl false))) sNil)
def law_9t1 : M Bool := (tOr (tB (e2 oGt (e1 oAbs (e2 oSub (eCall F__law_least [.va (e2 oAdd (eV 3) (eTup (eCons (eC (.int 1)) eNil))), .va (eV 4), .va (eV 7)]) (eV 9))) (e2 oMax2 (eIxP 7 (eC (.int 0))) (eIxP 7 (eC (.int 1)))))) (tB (e2 oGt (eCall F__law_least [.va (e2 oAdd (eV 5) (eV 3)), .va (e2 oAdd (eV 5) (eV 4)), .va (eV 7)]) (eV 9))))
def law_9 : C := (sIf law_9t1 (sRet (eC (.bl false))) sNil)
def law_10 : C := (sTo (gL [(gN 10), (gN 11), (gN 12)]) (eCall F_edit_paper [.va (eV 3), .va (eV 4), .va (eV 7)]))
def law_11 : C := (sSet 13 (eComp [21] (iL (eLst (eCons (eC (.str "keep")) (eCons (eC (.str "change")) (eCons (eC (.str "drop")) (eCons (eC (.str "add")) eNil)))))) (gN 21) tYes (eMetT fCt (eV 11) (eV 21))))
def law_12t1 : M Bool := (tOr (tB (e2 oNe (e2 oAdd (e2 oAdd (eIxP 13 (eC (.int 0))) (eIxP 13 (eC (.int 1)))) (eIxP 13 (eC (.int 2)))) (e1 oLen (eP 3)))) (tOr (tB (e2 oNe (e2 oAdd (e2 oAdd (eIxP 13 (eC (.int 0))) (eIxP 13 (eC (.int 1)))) (eIxP 13 (eC (.int 3)))) (e1 oLen (eP 4)))) (tB (e2 oNe (eV 10) (e2 oAdd (e2 oAdd (e2 oMul (eIxP 13 (eC (.int 1))) (eIxP 7 (eC (.int 2)))) (e2 oMul (eIxP 13 (eC (.int 2))) (eIxP 7 (eC (.int 0))))) (e2 oMul (eIxP 13 (eC (.int 3))) (eIxP 7 (eC (.int 1)))))))))
def law_12 : C := (sIf law_12t1 (sRet (eC (.bl false))) sNil)
def law_13 : C := (sSet 14 (sdisp [("keep", "keep"), ("change", "change"), ("drop", "add"), ("add", "drop")]))
def law_14 : C := (sSet 15 (eCall F_edit_table [.va (eV 4), .va (eV 3), .va (eV 8)]))
def law_15t1 : M Bool := (tB (e2 oIsNot (eCall F_takes_edit [.va (eV 4), .va (eV 3), .va (eV 8), .va (eTup (eCons (eV 10) (eCons (e1 oTuple (eComp [21] (iL (eV 11)) (gN 21) tYes (eDget 14 (eV 21)))) (eCons (eV 15) eNil))))]) (eC (.bl true))))
def law_15 : C := (sIf law_15t1 (sRet (eC (.bl false))) sNil)
def law_16 : C := (sSet 16 (eTup (eCons (eIxP 7 (eC (.int 0))) (eCons (eIxP 7 (eC (.int 1))) (eCons (e2 oAdd (eIxP 7 (eC (.int 0))) (eIxP 7 (eC (.int 1)))) eNil)))))
def law_17 : C := (sSet 17 (eCall F_common [.va (eV 3), .va (eV 4)]))
def law_18t1 : M Bool := (tB (e2 oNe (eCall F__law_least [.va (eV 3), .va (eV 4), .va (eV 16)]) (e2 oAdd (e2 oMul (e2 oSub (e1 oLen (eP 3)) (eV 17)) (eIxP 7 (eC (.int 0)))) (e2 oMul (e2 oSub (e1 oLen (eP 4)) (eV 17)) (eIxP 7 (eC (.int 1)))))))
def law_18 : C := (sIf law_18t1 (sRet (eC (.bl false))) sNil)
def law_19t1 : M Bool := (tB (e2 oEq (eCall F__law_take [.lent 1, .va (eC (.int 2))]) (eC (.int 0))))
def law_19 : C := (sSet 18 (e1 oTuple (eComp [20] (iR1 (e1 oLen (eP 3))) (gN 20) law_19t1 (eIxP 3 (eV 20)))))
def law_20 : C := (sRet (eAnd (e2 oLe (eCall F__law_least [.va (eV 3), .va (eV 18), .va (eV 7)]) (e2 oMul (e2 oSub (e1 oLen (eP 3)) (e1 oLen (eP 18))) (eIxP 7 (eC (.int 0))))) (eAnd (e2 oEq (eCall F_common [.va (eV 3), .va (eV 18)]) (e1 oLen (eP 18))) (eChain oEq oLe (eCall F_common [.va (eV 3), .va (eV 4)]) (eCall F_common [.va (eV 4), .va (eV 3)]) (e2 oMin2 (e1 oLen (eP 3)) (e1 oLen (eP 4)))))))
def c_law : C :=
  (sSeq law_0
  (sSeq law_1
  (sSeq law_2
  (sSeq law_3
  (sSeq law_4
  (sSeq law_5
  (sSeq law_6
  (sSeq law_7
  (sSeq law_8
  (sSeq law_9
  (sSeq law_10
  (sSeq law_11
  (sSeq law_12
  (sSeq law_13
  (sSeq law_14
  (sSeq law_15
  (sSeq law_16
  (sSeq law_17
  (sSeq law_18
  (sSeq law_19
  law_20))))))))))))))))))))
def F_law : F := runDef 22 [] c_law
end
end G
end Fx
end

section
set_option Elab.async false
set_option maxRecDepth 100000
set_option maxHeartbeats 4000000
set_option linter.all false
/-! LAW_T: the text computes them (written by gen.py). -/
namespace Fx
namespace G
open PySem PySem.Spec PyProof.Rows L2
def topS (i : Nat) : Stmt := PySem.Challenge.pw_farandnear_k47_whole_turned_and_joined_w.main.body.getD i (.Pass ⟨0, 0, 0, 0⟩)
abbrev s_is_integer : Stmt := topS 4
theorem sc_is_integer : FnScope ["value"] ["value"] (defScope s_is_integer) := ⟨rfl, rfl, rfl, by decide +kernel, rfl, by decide +kernel, by decide +kernel⟩
abbrev s_check_words : Stmt := topS 7
theorem sc_check_words : FnScope ["one", "other", "costs", "word", "sign", "each"] ["one", "other", "costs"] (defScope s_check_words) := ⟨rfl, rfl, rfl, by decide +kernel, rfl, by decide +kernel, by decide +kernel⟩
abbrev s_edit_table : Stmt := topS 8
theorem sc_edit_table : FnScope ["one", "other", "costs", "drop", "add", "change", "rows", "sign", "row", "at", "another", "same"] ["one", "other", "costs"] (defScope s_edit_table) := ⟨rfl, rfl, rfl, by decide +kernel, rfl, by decide +kernel, by decide +kernel⟩
abbrev s_edit_paper : Stmt := topS 9
theorem sc_edit_paper : FnScope ["one", "other", "costs", "table", "drop", "add", "change", "left", "right", "script", "now"] ["one", "other", "costs"] (defScope s_edit_paper) := ⟨rfl, rfl, rfl, by decide +kernel, rfl, by decide +kernel, by decide +kernel⟩
abbrev s_script_cost : Stmt := topS 10
theorem sc_script_cost : FnScope ["one", "other", "costs", "script", "drop", "add", "change", "left", "right", "total", "word"] ["one", "other", "costs", "script"] (defScope s_script_cost) := ⟨rfl, rfl, rfl, by decide +kernel, rfl, by decide +kernel, by decide +kernel⟩
abbrev s_is_table : Stmt := topS 12
theorem sc_is_table : FnScope ["table", "high", "wide", "row", "each"] ["table", "high", "wide"] (defScope s_is_table) := ⟨rfl, rfl, rfl, by decide +kernel, rfl, by decide +kernel, by decide +kernel⟩
abbrev s_grows : Stmt := topS 13
theorem sc_grows : FnScope ["one", "other", "costs", "table", "drop", "add", "change", "left", "right", "now", "step"] ["one", "other", "costs", "table"] (defScope s_grows) := ⟨rfl, rfl, rfl, by decide +kernel, rfl, by decide +kernel, by decide +kernel⟩
abbrev s_takes_edit : Stmt := topS 11
theorem sc_takes_edit : FnScope ["one", "other", "costs", "paper", "table", "word"] ["one", "other", "costs", "paper"] (defScope s_takes_edit) := ⟨rfl, rfl, rfl, by decide +kernel, rfl, by decide +kernel, by decide +kernel⟩
abbrev s_common : Stmt := topS 14
theorem sc_common : FnScope ["one", "other", "cost"] ["one", "other"] (defScope s_common) := ⟨rfl, rfl, rfl, by decide +kernel, rfl, by decide +kernel, by decide +kernel⟩
abbrev s__law_begin : Stmt := topS 16
theorem sc__law_begin : FnScope ["script", "seed", "cell"] ["script"] (defScope s__law_begin) := ⟨rfl, rfl, rfl, by decide +kernel, rfl, by decide +kernel, by decide +kernel⟩
abbrev s__law_take : Stmt := topS 17
theorem sc__law_take : FnScope ["d", "many", "small", "digit"] ["d", "many"] (defScope s__law_take) := ⟨rfl, rfl, rfl, by decide +kernel, rfl, by decide +kernel, by decide +kernel⟩
abbrev s__law_least : Stmt := topS 18
theorem sc__law_least : FnScope ["one", "other", "costs"] ["one", "other", "costs"] (defScope s__law_least) := ⟨rfl, rfl, rfl, by decide +kernel, rfl, by decide +kernel, by decide +kernel⟩
abbrev s_law : Stmt := topS 19
theorem sc_law : FnScope ["script", "d", "words", "one", "other", "third", "fourth", "costs", "back", "low", "cost", "script_of", "table", "kinds", "turned", "other_table", "dear", "best", "some", "x", "k", "word"] ["script"] (defScope s_law) := ⟨rfl, rfl, rfl, by decide +kernel, rfl, by decide +kernel, by decide +kernel⟩
/-- what the top of the text has written -/
structure Txt (P : Program) (w : World) (K : PySem.W.Frag) (mg : Str → Option Value) (base : Heap) : Prop where
  z_abs : mg "abs" = none
  z_any : mg "any" = none
  z_bool : mg "bool" = none
  z_enumerate : mg "enumerate" = none
  z_int : mg "int" = none
  z_isinstance : mg "isinstance" = none
  z_len : mg "len" = none
  z_list : mg "list" = none
  z_max : mg "max" = none
  z_min : mg "min" = none
  z_range : mg "range" = none
  z_str : mg "str" = none
  z_super : mg "super" = none
  z_tuple : mg "tuple" = none
  k_MOST_LENGTH : ∃ t, mg "MOST_LENGTH" = some (.int 8 t)
  x_WordError : Xk P K mg "WordError"
  f_is_integer : Df K mg "is_integer" ["value"] s_is_integer
  f_check_words : Df K mg "check_words" ["one", "other", "costs"] s_check_words
  f_edit_table : Df K mg "edit_table" ["one", "other", "costs"] s_edit_table
  f_edit_paper : Df K mg "edit_paper" ["one", "other", "costs"] s_edit_paper
  f_script_cost : Df K mg "script_cost" ["one", "other", "costs", "script"] s_script_cost
  f_is_table : Df K mg "is_table" ["table", "high", "wide"] s_is_table
  f_grows : Df K mg "grows" ["one", "other", "costs", "table"] s_grows
  f_takes_edit : Df K mg "takes_edit" ["one", "other", "costs", "paper"] s_takes_edit
  f_common : Df K mg "common" ["one", "other"] s_common
  f__law_begin : Df K mg "_law_begin" ["script"] s__law_begin
  f__law_take : Df K mg "_law_take" ["d", "many"] s__law_take
  f__law_least : Df K mg "_law_least" ["one", "other", "costs"] s__law_least
section
variable {P : Program} {w : World} {K : PySem.W.Frag} {mg : Str → Option Value} {base : Heap}
theorem t_is_integer (T : Txt P w K mg base) : Fk P w K mg base 3 "is_integer" ["value"] [] F_is_integer := by
    obtain ⟨fa, fd, Fn, bn, gm⟩ := T.f_is_integer.ex
    refine fk_def (c := c_is_integer) (k := 2) Fn sc_is_integer bn gm (by decide) fun cdv A outer s H E hr B hB => ?_
    obtain rfl : B = [] := by simpa using hB
    have hu : A.units + 3 + 66 < cLine := by have := hr.un; have e : (A.deeper (envOfC "is_integer" (defScope s_is_integer) s.heap.objs.size fa cdv)).units = A.units + 3 := rfl; omega
    have tk := tk_of (P := P) (w := w) (K := K) (mg := mg) (base := base) (N := ["value"]) (qual := "is_integer") (scope := defScope s_is_integer) (f := fa) (cdv := cdv) (A := A) (outer := outer) (s := s) (H := H) (E := E)
    have hp := hp_of (P := P) (w := w) (K := K) (mg := mg) (base := base) (N := ["value"]) (qual := "is_integer") (scope := defScope s_is_integer) (f := fa) (cdv := cdv) (A := A) (outer := outer) (s := s) (H := H) (E := E)
    exact (dss_one (ds_ret (de_and (de_isA .tInt (dp_v 0) T.z_isinstance T.z_int bb_isinstance bb_int) (de_one (de_not (de_isA .tBool (dp_v 0) T.z_isinstance T.z_bool bb_isinstance bb_bool))))))
theorem t_check_words (T : Txt P w K mg base) : Fk P w K mg base 4 "check_words" ["one", "other", "costs"] [] F_check_words := by
    obtain ⟨fa, fd, Fn, bn, gm⟩ := T.f_check_words.ex
    refine fk_def (c := c_check_words) (k := 3) Fn sc_check_words bn gm (by decide) fun cdv A outer s H E hr B hB => ?_
    obtain rfl : B = [] := by simpa using hB
    have hu : A.units + 3 + 66 < cLine := by have := hr.un; have e : (A.deeper (envOfC "check_words" (defScope s_check_words) s.heap.objs.size fa cdv)).units = A.units + 3 := rfl; omega
    have tk := tk_of (P := P) (w := w) (K := K) (mg := mg) (base := base) (N := ["one", "other", "costs", "word", "sign", "each"]) (qual := "check_words") (scope := defScope s_check_words) (f := fa) (cdv := cdv) (A := A) (outer := outer) (s := s) (H := H) (E := E)
    have hp := hp_of (P := P) (w := w) (K := K) (mg := mg) (base := base) (N := ["one", "other", "costs", "word", "sign", "each"]) (qual := "check_words") (scope := defScope s_check_words) (f := fa) (cdv := cdv) (A := A) (outer := outer) (s := s) (H := H) (E := E)
    exact (dss_cons (ds_for hp rfl (di_l (de_tupn (dn_cons (de_v 0) (dn_cons (de_v 1) dn_nil)))) (dg_n sc_check_words.nd) (dss_one (ds_if (DW.dt (dw_or (dt_not (dt_t (de_dp (de_isA .tTuple (dp_v 3) T.z_isinstance T.z_tuple bb_isinstance bb_tuple)))) (dw_or (dt_cmp op_gt ok_gt (de_len (dp_v 3) T.z_len) (de_gi T.k_MOST_LENGTH)) (dw_or1 (dt_t (de_dp (de_b1 (call_any' rfl) ok_anyA (de_dp (de_comp (own := [(("sign" : Str), 4)]) rfl sc_check_words.nd (di_l (de_v 3)) (blkOk_by (by kernel_rfl)) (fun s H C cl fp => (dg_n sc_check_words.nd)) (fun s H C cl fp => dts_nil) (fun s H C cl fp => (de_not (de_call ((t_is_integer T).mono (by omega)) hr takes0 (dr_va (de_v 4) dr_nil)))))) T.z_any bb_any))))))) (dss_one (ds_raiseK rfl T.x_WordError T.z_super hr tk de_str)) dss_nil)))
  (dss_one (ds_if (DW.dt (dw_or (dt_not (dt_t (de_dp (de_isA .tTuple (dp_v 2) T.z_isinstance T.z_tuple bb_isinstance bb_tuple)))) (dw_or (dt_cmp (opNe hu) ok_ne.vv (de_len (dp_v 2) T.z_len) de_int) (dw_or1 (dt_t (de_dp (de_b1 (call_any' rfl) ok_anyA (de_dp (de_comp (own := [(("each" : Str), 5)]) rfl sc_check_words.nd (di_l (de_v 2)) (blkOk_by (by kernel_rfl)) (fun s H C cl fp => (dg_n sc_check_words.nd)) (fun s H C cl fp => dts_nil) (fun s H C cl fp => (de_or (de_not (de_call ((t_is_integer T).mono (by omega)) hr takes0 (dr_va (de_v 5) dr_nil))) (de_one (de_cmp op_le ok_le (de_v 5) de_int)))))) T.z_any bb_any))))))) (dss_one (ds_raiseK rfl T.x_WordError T.z_super hr tk de_str)) dss_nil)))
theorem t_edit_table (T : Txt P w K mg base) : Fk P w K mg base 5 "edit_table" ["one", "other", "costs"] [] F_edit_table := by
    obtain ⟨fa, fd, Fn, bn, gm⟩ := T.f_edit_table.ex
    refine fk_def (c := c_edit_table) (k := 4) Fn sc_edit_table bn gm (by decide) fun cdv A outer s H E hr B hB => ?_
    obtain rfl : B = [] := by simpa using hB
    have hu : A.units + 3 + 66 < cLine := by have := hr.un; have e : (A.deeper (envOfC "edit_table" (defScope s_edit_table) s.heap.objs.size fa cdv)).units = A.units + 3 := rfl; omega
    have tk := tk_of (P := P) (w := w) (K := K) (mg := mg) (base := base) (N := ["one", "other", "costs", "drop", "add", "change", "rows", "sign", "row", "at", "another", "same"]) (qual := "edit_table") (scope := defScope s_edit_table) (f := fa) (cdv := cdv) (A := A) (outer := outer) (s := s) (H := H) (E := E)
    have hp := hp_of (P := P) (w := w) (K := K) (mg := mg) (base := base) (N := ["one", "other", "costs", "drop", "add", "change", "rows", "sign", "row", "at", "another", "same"]) (qual := "edit_table") (scope := defScope s_edit_table) (f := fa) (cdv := cdv) (A := A) (outer := outer) (s := s) (H := H) (E := E)
    exact (dss_cons (ds_drop (de_call ((t_check_words T).mono (by omega)) hr tk (dr_va (de_v 0) (dr_va (de_v 1) (dr_va (de_v 2) dr_nil)))))
  (dss_cons (ds_to (de_v 2) (dg_tl rfl (dgs_cons (dg_n sc_edit_table.nd) (dgs_cons (dg_n sc_edit_table.nd) (dgs_cons (dg_n sc_edit_table.nd) dgs_nil)))))
  (dss_cons (ds_set sc_edit_table.nd (de_lst (dn_cons (de_comp (own := [(("at" : Str), 9)]) rfl sc_edit_table.nd (di_r1 (de_add (de_len (dp_v 1) T.z_len) de_int) T.z_range) (blkOk_by (by kernel_rfl)) (fun s H C cl fp => (dg_n sc_edit_table.nd)) (fun s H C cl fp => dts_nil) (fun s H C cl fp => (de_mul (de_v 9) (de_v 4)))) dn_nil)))
  (dss_cons (ds_for hp rfl (di_l (de_v 0)) (dg_n sc_edit_table.nd) (dss_cons (ds_set sc_edit_table.nd (de_lst (dn_cons (de_add (de_ix (de_ixP 6 (de_neg de_int)) de_int) (de_v 3)) dn_nil)))
  (dss_cons (ds_for hp rfl (di_enum (de_v 1) T.z_enumerate) (dg_t rfl (dgs_cons (dg_n sc_edit_table.nd) (dgs_cons (dg_n sc_edit_table.nd) dgs_nil))) (dss_cons (ds_set sc_edit_table.nd (de_add (de_ix (de_ixP 6 (de_neg de_int)) (de_v 9)) (de_if (dt_cmp (opEq hu) ok_eq.vv (de_v 7) (de_v 10)) de_int (de_v 5))))
  (dss_one (ds_drop (de_app 8 (de_bN (call_min3 rfl) (da_cons (de_add (de_ix (de_ixP 6 (de_neg de_int)) (de_add (de_v 9) de_int)) (de_v 3)) (da_cons (de_add (de_ixP 8 (de_neg de_int)) (de_v 4)) (da_cons (de_v 11) da_nil))) T.z_min bb_min))))))
  (dss_one (ds_drop (de_app 6 (de_v 8)))))))
  (dss_one (ds_ret (de_t1 call_tupleF ok_tuple (de_dp (de_comp (own := [(("row" : Str), 8)]) rfl sc_edit_table.nd (di_l (de_v 6)) (blkOk_by (by kernel_rfl)) (fun s H C cl fp => (dg_n sc_edit_table.nd)) (fun s H C cl fp => dts_nil) (fun s H C cl fp => (de_t1 call_tupleF ok_tuple (dp_v 8) T.z_tuple bb_tuple)))) T.z_tuple bb_tuple)))))))
theorem t_edit_paper (T : Txt P w K mg base) : Fk P w K mg base 6 "edit_paper" ["one", "other", "costs"] [] F_edit_paper := by
    obtain ⟨fa, fd, Fn, bn, gm⟩ := T.f_edit_paper.ex
    refine fk_def (c := c_edit_paper) (k := 5) Fn sc_edit_paper bn gm (by decide) fun cdv A outer s H E hr B hB => ?_
    obtain rfl : B = [] := by simpa using hB
    have hu : A.units + 3 + 66 < cLine := by have := hr.un; have e : (A.deeper (envOfC "edit_paper" (defScope s_edit_paper) s.heap.objs.size fa cdv)).units = A.units + 3 := rfl; omega
    have tk := tk_of (P := P) (w := w) (K := K) (mg := mg) (base := base) (N := ["one", "other", "costs", "table", "drop", "add", "change", "left", "right", "script", "now"]) (qual := "edit_paper") (scope := defScope s_edit_paper) (f := fa) (cdv := cdv) (A := A) (outer := outer) (s := s) (H := H) (E := E)
    have hp := hp_of (P := P) (w := w) (K := K) (mg := mg) (base := base) (N := ["one", "other", "costs", "table", "drop", "add", "change", "left", "right", "script", "now"]) (qual := "edit_paper") (scope := defScope s_edit_paper) (f := fa) (cdv := cdv) (A := A) (outer := outer) (s := s) (H := H) (E := E)
    exact (dss_cons (ds_set sc_edit_paper.nd (de_call ((t_edit_table T).mono (by omega)) hr tk (dr_va (de_v 0) (dr_va (de_v 1) (dr_va (de_v 2) dr_nil)))))
  (dss_cons (ds_to (de_v 2) (dg_tl rfl (dgs_cons (dg_n sc_edit_paper.nd) (dgs_cons (dg_n sc_edit_paper.nd) (dgs_cons (dg_n sc_edit_paper.nd) dgs_nil)))))
  (dss_cons (ds_par rfl sc_edit_paper.nd (da_cons (de_len (dp_v 0) T.z_len) (da_cons (de_len (dp_v 1) T.z_len) da_nil)))
  (dss_cons (ds_set sc_edit_paper.nd (de_lst dn_nil))
  (dss_cons (ds_while hp (DW.dt (dw_or (dt_cmp op_gt ok_gt (de_v 7) de_int) (dw_or1 (dt_cmp op_gt ok_gt (de_v 8) de_int)))) (dss_cons (ds_set sc_edit_paper.nd (de_ix (de_ixP 3 (de_v 7)) (de_v 8)))
  (dss_one (ds_if (DW.dt (dw_and (dt_cmp op_gt ok_gt (de_v 7) de_int) (dw_and (dt_cmp op_gt ok_gt (de_v 8) de_int) (dw_and (dt_cmp (opEq hu) ok_eq.vv (de_ixP 0 (de_sub (de_v 7) de_int)) (de_ixP 1 (de_sub (de_v 8) de_int))) (dw_and1 (dt_cmp (opEq hu) ok_eq.vv (de_ix (de_ixP 3 (de_sub (de_v 7) de_int)) (de_sub (de_v 8) de_int)) (de_v 10))))))) (dss_cons (ds_drop (de_app 9 de_str))
  (dss_one (ds_par rfl sc_edit_paper.nd (da_cons (de_sub (de_v 7) de_int) (da_cons (de_sub (de_v 8) de_int) da_nil))))) (dss_one (ds_if (DW.dt (dw_and (dt_cmp op_gt ok_gt (de_v 7) de_int) (dw_and (dt_cmp op_gt ok_gt (de_v 8) de_int) (dw_and1 (dt_cmp (opEq hu) ok_eq.vv (de_add (de_ix (de_ixP 3 (de_sub (de_v 7) de_int)) (de_sub (de_v 8) de_int)) (de_v 6)) (de_v 10)))))) (dss_cons (ds_drop (de_app 9 de_str))
  (dss_one (ds_par rfl sc_edit_paper.nd (da_cons (de_sub (de_v 7) de_int) (da_cons (de_sub (de_v 8) de_int) da_nil))))) (dss_one (ds_if (DW.dt (dw_and (dt_cmp op_gt ok_gt (de_v 7) de_int) (dw_and1 (dt_cmp (opEq hu) ok_eq.vv (de_add (de_ix (de_ixP 3 (de_sub (de_v 7) de_int)) (de_v 8)) (de_v 4)) (de_v 10))))) (dss_cons (ds_drop (de_app 9 de_str))
  (dss_one (ds_aug sc_edit_paper.nd ip_sub de_int))) (dss_cons (ds_drop (de_app 9 de_str))
  (dss_one (ds_aug sc_edit_paper.nd ip_sub de_int)))))))))))
  (dss_one (ds_ret (de_tupn (dn_cons (de_ix (de_ixP 3 (de_neg de_int)) (de_neg de_int)) (dn_cons (de_t1 call_tupleF ok_tuple (de_dp (de_rv (de_v 9))) T.z_tuple bb_tuple) (dn_cons (de_v 3) dn_nil)))))))))))
theorem t_script_cost (T : Txt P w K mg base) : Fk P w K mg base 3 "script_cost" ["one", "other", "costs", "script"] [] F_script_cost := by
    obtain ⟨fa, fd, Fn, bn, gm⟩ := T.f_script_cost.ex
    refine fk_def (c := c_script_cost) (k := 2) Fn sc_script_cost bn gm (by decide) fun cdv A outer s H E hr B hB => ?_
    obtain rfl : B = [] := by simpa using hB
    have hu : A.units + 3 + 66 < cLine := by have := hr.un; have e : (A.deeper (envOfC "script_cost" (defScope s_script_cost) s.heap.objs.size fa cdv)).units = A.units + 3 := rfl; omega
    have tk := tk_of (P := P) (w := w) (K := K) (mg := mg) (base := base) (N := ["one", "other", "costs", "script", "drop", "add", "change", "left", "right", "total", "word"]) (qual := "script_cost") (scope := defScope s_script_cost) (f := fa) (cdv := cdv) (A := A) (outer := outer) (s := s) (H := H) (E := E)
    have hp := hp_of (P := P) (w := w) (K := K) (mg := mg) (base := base) (N := ["one", "other", "costs", "script", "drop", "add", "change", "left", "right", "total", "word"]) (qual := "script_cost") (scope := defScope s_script_cost) (f := fa) (cdv := cdv) (A := A) (outer := outer) (s := s) (H := H) (E := E)
    exact (dss_cons (ds_to (de_v 2) (dg_tl rfl (dgs_cons (dg_n sc_script_cost.nd) (dgs_cons (dg_n sc_script_cost.nd) (dgs_cons (dg_n sc_script_cost.nd) dgs_nil)))))
  (dss_cons (ds_to (de_tupn (dn_cons de_int (dn_cons de_int (dn_cons de_int dn_nil)))) (dg_t rfl (dgs_cons (dg_n sc_script_cost.nd) (dgs_cons (dg_n sc_script_cost.nd) (dgs_cons (dg_n sc_script_cost.nd) dgs_nil)))))
  (dss_cons (ds_for hp rfl (di_l (de_v 3)) (dg_n sc_script_cost.nd) (dss_one (ds_if (dt_cmpP (op_in1 hu) ok_in (de_v 10) (de_dp (de_tupn (dn_cons de_str (dn_cons de_str dn_nil))))) (dss_cons (ds_if (DW.dt (dw_or (dt_cmp op_ge ok_ge (de_v 7) (de_len (dp_v 0) T.z_len)) (dw_or (dt_cmp op_ge ok_ge (de_v 8) (de_len (dp_v 1) T.z_len)) (dw_or1 (DW.dt (dw_and (dt_cmp (opEq hu) ok_eq.vv (de_v 10) de_str) (dw_and1 (dt_cmp (opNe hu) ok_ne.vv (de_ixP 0 (de_v 7)) (de_ixP 1 (de_v 8)))))))))) (dss_one (ds_ret de_non)) dss_nil)
  (dss_cons (ds_aug sc_script_cost.nd ip_add (de_if (dt_cmp (opEq hu) ok_eq.vv (de_v 10) de_str) (de_v 6) de_int))
  (dss_one (ds_par rfl sc_script_cost.nd (da_cons (de_add (de_v 7) de_int) (da_cons (de_add (de_v 8) de_int) da_nil)))))) (dss_one (ds_if (dt_cmp (opEq hu) ok_eq.vv (de_v 10) de_str) (dss_one (ds_par rfl sc_script_cost.nd (da_cons (de_add (de_v 9) (de_v 4)) (da_cons (de_add (de_v 7) de_int) da_nil)))) (dss_one (ds_if (dt_cmp (opEq hu) ok_eq.vv (de_v 10) de_str) (dss_one (ds_par rfl sc_script_cost.nd (da_cons (de_add (de_v 9) (de_v 5)) (da_cons (de_add (de_v 8) de_int) da_nil)))) (dss_one (ds_ret de_non)))))))))
  (dss_one (ds_ret (de_if (dt_cmp (opEq hu) ok_eq.vv (de_tupn (dn_cons (de_v 7) (dn_cons (de_v 8) dn_nil))) (de_tupn (dn_cons (de_len (dp_v 0) T.z_len) (dn_cons (de_len (dp_v 1) T.z_len) dn_nil)))) (de_v 9) de_non))))))
theorem t_is_table (T : Txt P w K mg base) : Fk P w K mg base 4 "is_table" ["table", "high", "wide"] [] F_is_table := by
    obtain ⟨fa, fd, Fn, bn, gm⟩ := T.f_is_table.ex
    refine fk_def (c := c_is_table) (k := 3) Fn sc_is_table bn gm (by decide) fun cdv A outer s H E hr B hB => ?_
    obtain rfl : B = [] := by simpa using hB
    have hu : A.units + 3 + 66 < cLine := by have := hr.un; have e : (A.deeper (envOfC "is_table" (defScope s_is_table) s.heap.objs.size fa cdv)).units = A.units + 3 := rfl; omega
    have tk := tk_of (P := P) (w := w) (K := K) (mg := mg) (base := base) (N := ["table", "high", "wide", "row", "each"]) (qual := "is_table") (scope := defScope s_is_table) (f := fa) (cdv := cdv) (A := A) (outer := outer) (s := s) (H := H) (E := E)
    have hp := hp_of (P := P) (w := w) (K := K) (mg := mg) (base := base) (N := ["table", "high", "wide", "row", "each"]) (qual := "is_table") (scope := defScope s_is_table) (f := fa) (cdv := cdv) (A := A) (outer := outer) (s := s) (H := H) (E := E)
    exact (dss_cons (ds_if (DW.dt (dw_or (dt_not (dt_t (de_dp (de_isA .tTuple (dp_v 0) T.z_isinstance T.z_tuple bb_isinstance bb_tuple)))) (dw_or1 (dt_cmp (opNe hu) ok_ne.vv (de_len (dp_v 0) T.z_len) (de_v 1))))) (dss_one (ds_ret de_bl)) dss_nil)
  (dss_cons (ds_for hp rfl (di_l (de_v 0)) (dg_n sc_is_table.nd) (dss_one (ds_if (DW.dt (dw_or (dt_not (dt_t (de_dp (de_isA .tTuple (dp_v 3) T.z_isinstance T.z_tuple bb_isinstance bb_tuple)))) (dw_or (dt_cmp (opNe hu) ok_ne.vv (de_len (dp_v 3) T.z_len) (de_v 2)) (dw_or1 (dt_t (de_dp (de_b1 (call_any' rfl) ok_anyA (de_dp (de_comp (own := [(("each" : Str), 4)]) rfl sc_is_table.nd (di_l (de_v 3)) (blkOk_by (by kernel_rfl)) (fun s H C cl fp => (dg_n sc_is_table.nd)) (fun s H C cl fp => dts_nil) (fun s H C cl fp => (de_not (de_call ((t_is_integer T).mono (by omega)) hr takes0 (dr_va (de_v 4) dr_nil)))))) T.z_any bb_any))))))) (dss_one (ds_ret de_bl)) dss_nil)))
  (dss_one (ds_ret de_bl))))
theorem t_grows (T : Txt P w K mg base) : Fk P w K mg base 3 "grows" ["one", "other", "costs", "table"] [] F_grows := by
    obtain ⟨fa, fd, Fn, bn, gm⟩ := T.f_grows.ex
    refine fk_def (c := c_grows) (k := 2) Fn sc_grows bn gm (by decide) fun cdv A outer s H E hr B hB => ?_
    obtain rfl : B = [] := by simpa using hB
    have hu : A.units + 3 + 66 < cLine := by have := hr.un; have e : (A.deeper (envOfC "grows" (defScope s_grows) s.heap.objs.size fa cdv)).units = A.units + 3 := rfl; omega
    have tk := tk_of (P := P) (w := w) (K := K) (mg := mg) (base := base) (N := ["one", "other", "costs", "table", "drop", "add", "change", "left", "right", "now", "step"]) (qual := "grows") (scope := defScope s_grows) (f := fa) (cdv := cdv) (A := A) (outer := outer) (s := s) (H := H) (E := E)
    have hp := hp_of (P := P) (w := w) (K := K) (mg := mg) (base := base) (N := ["one", "other", "costs", "table", "drop", "add", "change", "left", "right", "now", "step"]) (qual := "grows") (scope := defScope s_grows) (f := fa) (cdv := cdv) (A := A) (outer := outer) (s := s) (H := H) (E := E)
    exact (dss_cons (ds_to (de_v 2) (dg_tl rfl (dgs_cons (dg_n sc_grows.nd) (dgs_cons (dg_n sc_grows.nd) (dgs_cons (dg_n sc_grows.nd) dgs_nil)))))
  (dss_cons (ds_for hp rfl (di_r1 (de_add (de_len (dp_v 0) T.z_len) de_int) T.z_range) (dg_n sc_grows.nd) (dss_one (ds_for hp rfl (di_r1 (de_add (de_len (dp_v 1) T.z_len) de_int) T.z_range) (dg_n sc_grows.nd) (dss_cons (ds_set sc_grows.nd (de_ix (de_ixP 3 (de_v 7)) (de_v 8)))
  (dss_cons (ds_if (DW.dt (dw_and (dt_cmp op_gt ok_gt (de_v 7) de_int) (dw_and1 (dt_cmp op_gt ok_gt (de_v 9) (de_add (de_ix (de_ixP 3 (de_sub (de_v 7) de_int)) (de_v 8)) (de_v 4)))))) (dss_one (ds_ret de_bl)) dss_nil)
  (dss_cons (ds_if (DW.dt (dw_and (dt_cmp op_gt ok_gt (de_v 8) de_int) (dw_and1 (dt_cmp op_gt ok_gt (de_v 9) (de_add (de_ix (de_ixP 3 (de_v 7)) (de_sub (de_v 8) de_int)) (de_v 5)))))) (dss_one (ds_ret de_bl)) dss_nil)
  (dss_one (ds_if (DW.dt (dw_and (dt_cmp op_gt ok_gt (de_v 7) de_int) (dw_and1 (dt_cmp op_gt ok_gt (de_v 8) de_int)))) (dss_cons (ds_set sc_grows.nd (de_if (dt_cmp (opEq hu) ok_eq.vv (de_ixP 0 (de_sub (de_v 7) de_int)) (de_ixP 1 (de_sub (de_v 8) de_int))) de_int (de_v 6)))
  (dss_one (ds_if (dt_cmp op_gt ok_gt (de_v 9) (de_add (de_ix (de_ixP 3 (de_sub (de_v 7) de_int)) (de_sub (de_v 8) de_int)) (de_v 10))) (dss_one (ds_ret de_bl)) dss_nil))) dss_nil))))))))
  (dss_one (ds_ret de_bl))))
theorem t_takes_edit (T : Txt P w K mg base) : Fk P w K mg base 5 "takes_edit" ["one", "other", "costs", "paper"] [] F_takes_edit := by
    obtain ⟨fa, fd, Fn, bn, gm⟩ := T.f_takes_edit.ex
    refine fk_def (c := c_takes_edit) (k := 4) Fn sc_takes_edit bn gm (by decide) fun cdv A outer s H E hr B hB => ?_
    obtain rfl : B = [] := by simpa using hB
    have hu : A.units + 3 + 66 < cLine := by have := hr.un; have e : (A.deeper (envOfC "takes_edit" (defScope s_takes_edit) s.heap.objs.size fa cdv)).units = A.units + 3 := rfl; omega
    have tk := tk_of (P := P) (w := w) (K := K) (mg := mg) (base := base) (N := ["one", "other", "costs", "paper", "table", "word"]) (qual := "takes_edit") (scope := defScope s_takes_edit) (f := fa) (cdv := cdv) (A := A) (outer := outer) (s := s) (H := H) (E := E)
    have hp := hp_of (P := P) (w := w) (K := K) (mg := mg) (base := base) (N := ["one", "other", "costs", "paper", "table", "word"]) (qual := "takes_edit") (scope := defScope s_takes_edit) (f := fa) (cdv := cdv) (A := A) (outer := outer) (s := s) (H := H) (E := E)
    exact (dss_cons (ds_drop (de_call ((t_check_words T).mono (by omega)) hr tk (dr_va (de_v 0) (dr_va (de_v 1) (dr_va (de_v 2) dr_nil)))))
  (dss_cons (ds_if (DW.dt (dw_or (dt_not (dt_t (de_dp (de_isA .tTuple (dp_v 3) T.z_isinstance T.z_tuple bb_isinstance bb_tuple)))) (dw_or (dt_cmp (opNe hu) ok_ne.vv (de_len (dp_v 3) T.z_len) de_int) (dw_or (dt_not (dt_t (de_dp (de_call ((t_is_integer T).mono (by omega)) hr tk (dr_va (de_ixP 3 de_int) dr_nil))))) (dw_or1 (dt_not (dt_t (de_dp (de_isA .tTuple (de_dp (de_ixP 3 de_int)) T.z_isinstance T.z_tuple bb_isinstance bb_tuple))))))))) (dss_one (ds_ret de_bl)) dss_nil)
  (dss_cons (ds_if (DW.dt (dw_or (dt_t (de_dp (de_b1 (call_any' rfl) ok_anyA (de_dp (de_comp (own := [(("word" : Str), 5)]) rfl sc_takes_edit.nd (di_l (de_ixP 3 de_int)) (blkOk_by (by kernel_rfl)) (fun s H C cl fp => (dg_n sc_takes_edit.nd)) (fun s H C cl fp => dts_nil) (fun s H C cl fp => (de_not (de_isA .tStr (dp_v 5) T.z_isinstance T.z_str bb_isinstance bb_str))))) T.z_any bb_any))) (dw_or1 (dt_cmp (opNe hu) ok_ne.vv (de_call ((t_script_cost T).mono (by omega)) hr tk (dr_va (de_v 0) (dr_va (de_v 1) (dr_va (de_v 2) (dr_va (de_ixP 3 de_int) dr_nil))))) (de_ixP 3 de_int))))) (dss_one (ds_ret de_bl)) dss_nil)
  (dss_cons (ds_set sc_takes_edit.nd (de_ixP 3 de_int))
  (dss_cons (ds_if (DW.dt (dw_or (dt_not (dt_t (de_dp (de_call ((t_is_table T).mono (by omega)) hr tk (dr_va (de_v 4) (dr_va (de_add (de_len (dp_v 0) T.z_len) de_int) (dr_va (de_add (de_len (dp_v 1) T.z_len) de_int) dr_nil))))))) (dw_or (dt_cmp (opNe hu) ok_ne.vv (de_ix (de_ixP 4 de_int) de_int) de_int) (dw_or1 (dt_cmp (opNe hu) ok_ne.vv (de_ix (de_ixP 4 (de_neg de_int)) (de_neg de_int)) (de_ixP 3 de_int)))))) (dss_one (ds_ret de_bl)) dss_nil)
  (dss_one (ds_ret (de_call ((t_grows T).mono (by omega)) hr tk (dr_va (de_v 0) (dr_va (de_v 1) (dr_va (de_v 2) (dr_va (de_v 4) dr_nil))))))))))))
theorem t_common (T : Txt P w K mg base) : Fk P w K mg base 6 "common" ["one", "other"] [] F_common := by
    obtain ⟨fa, fd, Fn, bn, gm⟩ := T.f_common.ex
    refine fk_def (c := c_common) (k := 5) Fn sc_common bn gm (by decide) fun cdv A outer s H E hr B hB => ?_
    obtain rfl : B = [] := by simpa using hB
    have hu : A.units + 3 + 66 < cLine := by have := hr.un; have e : (A.deeper (envOfC "common" (defScope s_common) s.heap.objs.size fa cdv)).units = A.units + 3 := rfl; omega
    have tk := tk_of (P := P) (w := w) (K := K) (mg := mg) (base := base) (N := ["one", "other", "cost"]) (qual := "common") (scope := defScope s_common) (f := fa) (cdv := cdv) (A := A) (outer := outer) (s := s) (H := H) (E := E)
    have hp := hp_of (P := P) (w := w) (K := K) (mg := mg) (base := base) (N := ["one", "other", "cost"]) (qual := "common") (scope := defScope s_common) (f := fa) (cdv := cdv) (A := A) (outer := outer) (s := s) (H := H) (E := E)
    exact (dss_cons (ds_set sc_common.nd (de_ix (de_ix (de_call ((t_edit_table T).mono (by omega)) hr tk (dr_va (de_v 0) (dr_va (de_v 1) (dr_va (de_tupn (dn_cons de_int (dn_cons de_int (dn_cons de_int dn_nil)))) dr_nil)))) (de_neg de_int)) (de_neg de_int)))
  (dss_one (ds_ret (de_div (de_sub (de_add (de_len (dp_v 0) T.z_len) (de_len (dp_v 1) T.z_len)) (de_v 2)) de_int))))
theorem t__law_begin (T : Txt P w K mg base) : Fk P w K mg base 3 "_law_begin" ["script"] [] F__law_begin := by
    obtain ⟨fa, fd, Fn, bn, gm⟩ := T.f__law_begin.ex
    refine fk_def (c := c__law_begin) (k := 2) Fn sc__law_begin bn gm (by decide) fun cdv A outer s H E hr B hB => ?_
    obtain rfl : B = [] := by simpa using hB
    have hu : A.units + 3 + 66 < cLine := by have := hr.un; have e : (A.deeper (envOfC "_law_begin" (defScope s__law_begin) s.heap.objs.size fa cdv)).units = A.units + 3 := rfl; omega
    have tk := tk_of (P := P) (w := w) (K := K) (mg := mg) (base := base) (N := ["script", "seed", "cell"]) (qual := "_law_begin") (scope := defScope s__law_begin) (f := fa) (cdv := cdv) (A := A) (outer := outer) (s := s) (H := H) (E := E)
    have hp := hp_of (P := P) (w := w) (K := K) (mg := mg) (base := base) (N := ["script", "seed", "cell"]) (qual := "_law_begin") (scope := defScope s__law_begin) (f := fa) (cdv := cdv) (A := A) (outer := outer) (s := s) (H := H) (E := E)
    exact (dss_cons (ds_set sc__law_begin.nd de_int)
  (dss_cons (ds_for hp rfl (di_l (de_v 0)) (dg_n sc__law_begin.nd) (dss_one (ds_set sc__law_begin.nd (de_mod (de_add (de_add (de_mul (de_v 1) de_int) (de_mod (de_t1 call_int1 ok_int1 (dp_v 2) T.z_int bb_int) de_int)) de_int) de_int))))
  (dss_one (ds_ret (de_lst (dn_cons (de_t1 call_list_of ok_list (dp_v 0) T.z_list bb_list) (dn_cons de_int (dn_cons de_int (dn_cons (de_v 1) dn_nil)))))))))
theorem t__law_take (T : Txt P w K mg base) : Fk P w K mg base 3 "_law_take" ["d", "many"] [0] F__law_take := by
    obtain ⟨fa, fd, Fn, bn, gm⟩ := T.f__law_take.ex
    refine fk_def (c := c__law_take) (k := 2) Fn sc__law_take bn gm (by decide) fun cdv A outer s H E hr B hB => ?_
    obtain ⟨a0, rfl⟩ := one_B hB
    have hu : A.units + 3 + 66 < cLine := by have := hr.un; have e : (A.deeper (envOfC "_law_take" (defScope s__law_take) s.heap.objs.size fa cdv)).units = A.units + 3 := rfl; omega
    have tk := tk_of (P := P) (w := w) (K := K) (mg := mg) (base := base) (N := ["d", "many", "small", "digit"]) (qual := "_law_take") (scope := defScope s__law_take) (f := fa) (cdv := cdv) (A := A) (outer := outer) (s := s) (H := H) (E := E)
    have hp := hp_of (P := P) (w := w) (K := K) (mg := mg) (base := base) (N := ["d", "many", "small", "digit"]) (qual := "_law_take") (scope := defScope s__law_take) (f := fa) (cdv := cdv) (A := A) (outer := outer) (s := s) (H := H) (E := E)
    exact (dss_cons (ds_if (DW.dt (dw_and (dt_cmp (opEq hu) ok_eq.vv (de_ixP 0 de_int) de_int) (dw_and1 (dt_cmp op_lt ok_lt (de_ixP 0 de_int) (de_len (de_dp (de_ixP 0 de_int)) T.z_len))))) (dss_cons (ds_to (de_b1 call_abs ok_abs (de_dp (de_t1 call_int1 ok_int1 (de_dp (de_ix (de_ixP 0 de_int) (de_ixP 0 de_int))) T.z_int bb_int)) T.z_abs bb_abs) (dg_ix 0 dn_i))
  (dss_cons (ds_to (de_add (de_ixP 0 de_int) de_int) (dg_ix 0 dn_i))
  (dss_one (ds_if (dt_cmp op_lt ok_lt (de_ixP 0 de_int) (de_pow de_int de_int)) (dss_cons (ds_set sc__law_take.nd (de_t1 call_int1 ok_int1 (de_dp (de_ixP 0 de_int)) T.z_int bb_int))
  (dss_cons (ds_to de_int (dg_ix 0 dn_i))
  (dss_one (ds_ret (de_mod (de_v 2) (de_v 1)))))) dss_nil)))) dss_nil)
  (dss_cons (ds_if (dt_cmp op_gt ok_gt (de_ixP 0 de_int) de_int) (dss_cons (ds_set sc__law_take.nd (de_mod (de_t1 call_int1 ok_int1 (de_dp (de_ixP 0 de_int)) T.z_int bb_int) (de_v 1)))
  (dss_cons (ds_to (de_div (de_t1 call_int1 ok_int1 (de_dp (de_ixP 0 de_int)) T.z_int bb_int) (de_v 1)) (dg_ix 0 dn_i))
  (dss_one (ds_ret (de_v 3))))) dss_nil)
  (dss_cons (ds_to (de_mod (de_t1 call_int1 ok_int1 (de_dp (de_add (de_mul (de_ixP 0 de_int) de_int) de_int)) T.z_int bb_int) de_int) (dg_ix 0 dn_i))
  (dss_one (ds_ret (de_mod (de_t1 call_int1 ok_int1 (de_dp (de_div (de_ixP 0 de_int) de_int)) T.z_int bb_int) (de_v 1)))))))
theorem t__law_least (T : Txt P w K mg base) : Fk P w K mg base 6 "_law_least" ["one", "other", "costs"] [] F__law_least := by
    obtain ⟨fa, fd, Fn, bn, gm⟩ := T.f__law_least.ex
    refine fk_def (c := c__law_least) (k := 5) Fn sc__law_least bn gm (by decide) fun cdv A outer s H E hr B hB => ?_
    obtain rfl : B = [] := by simpa using hB
    have hu : A.units + 3 + 66 < cLine := by have := hr.un; have e : (A.deeper (envOfC "_law_least" (defScope s__law_least) s.heap.objs.size fa cdv)).units = A.units + 3 := rfl; omega
    have tk := tk_of (P := P) (w := w) (K := K) (mg := mg) (base := base) (N := ["one", "other", "costs"]) (qual := "_law_least") (scope := defScope s__law_least) (f := fa) (cdv := cdv) (A := A) (outer := outer) (s := s) (H := H) (E := E)
    have hp := hp_of (P := P) (w := w) (K := K) (mg := mg) (base := base) (N := ["one", "other", "costs"]) (qual := "_law_least") (scope := defScope s__law_least) (f := fa) (cdv := cdv) (A := A) (outer := outer) (s := s) (H := H) (E := E)
    exact (dss_one (ds_ret (de_ix (de_ix (de_call ((t_edit_table T).mono (by omega)) hr tk (dr_va (de_v 0) (dr_va (de_v 1) (dr_va (de_v 2) dr_nil)))) (de_neg de_int)) (de_neg de_int))))
theorem t_law (T : Txt P w K mg base) {fa : Addr} {fd : FuncData} (Fn : Fun K "law" "law" s_law fa fd) (law : ∀ ns : List Int, ns.length ≤ 63 → F_law [.v (.lst (ns.map .int))] = .ok (.v (.bl true)) []) : FnOk P w K mg base CX0 7 fa fd ["script"] (spLaw K) := by
  refine law_def (c := c_law) (k := 6) Fn sc_law (fun cdv A outer s H E hr => ?_) law
  have hu : A.units + 3 + 66 < cLine := by have := hr.un; have e : (A.deeper (envOfC "law" (defScope s_law) s.heap.objs.size fa cdv)).units = A.units + 3 := rfl; omega
  exact (dss_cons (ds_set sc_law.nd (de_call ((t__law_begin T).mono (by omega)) hr takes0 (dr_va (de_v 0) dr_nil)))
  (dss_cons (ds_setC (own := [(("x" : Str), 19)]) rfl sc_law.nd (di_r1 de_int T.z_range) (blkOk_by (by kernel_rfl)) (fun s H C cl fp => (dg_n sc_law.nd)) (fun s H C cl fp => dts_nil) (fun s H C cl fp => (de_t1 call_tupleF ok_tuple (de_dp (de_comp (own := [(("k" : Str), 20)]) rfl sc_law.nd (di_r1 (de_call ((t__law_take T).mono (by omega)) hr takes0 (dr_lent 1 (dr_va de_int dr_nil))) T.z_range) (blkOk_by (by kernel_rfl)) (fun s H C cl fp => (dg_n sc_law.nd)) (fun s H C cl fp => dts_nil) (fun s H C cl fp => (de_call ((t__law_take T).mono (by omega)) hr takes0 (dr_lent 1 (dr_va de_int dr_nil)))))) T.z_tuple bb_tuple)))
  (dss_cons (ds_to (de_v 2) (dg_tl rfl (dgs_cons (dg_n sc_law.nd) (dgs_cons (dg_n sc_law.nd) (dgs_cons (dg_n sc_law.nd) (dgs_cons (dg_n sc_law.nd) dgs_nil))))))
  (dss_cons (ds_set sc_law.nd (de_tupn (dn_cons (de_add de_int (de_call ((t__law_take T).mono (by omega)) hr takes0 (dr_lent 1 (dr_va de_int dr_nil)))) (dn_cons (de_add de_int (de_call ((t__law_take T).mono (by omega)) hr takes0 (dr_lent 1 (dr_va de_int dr_nil)))) (dn_cons (de_add de_int (de_call ((t__law_take T).mono (by omega)) hr takes0 (dr_lent 1 (dr_va de_int dr_nil)))) dn_nil)))))
  (dss_cons (ds_set sc_law.nd (de_tupn (dn_cons (de_ixP 7 de_int) (dn_cons (de_ixP 7 de_int) (dn_cons (de_ixP 7 de_int) dn_nil)))))
  (dss_cons (ds_set sc_law.nd (de_call ((t__law_least T).mono (by omega)) hr takes0 (dr_va (de_v 3) (dr_va (de_v 4) (dr_va (de_v 7) dr_nil)))))
  (dss_cons (ds_if (DW.dt (dw_or (dt_cmp (opNe hu) ok_ne.vv (de_call ((t__law_least T).mono (by omega)) hr takes0 (dr_va (de_rv (de_v 3)) (dr_va (de_rv (de_v 4)) (dr_va (de_v 7) dr_nil)))) (de_v 9)) (dw_or (dt_cmp (opNe hu) ok_ne.vv (de_call ((t__law_least T).mono (by omega)) hr takes0 (dr_va (de_v 4) (dr_va (de_v 3) (dr_va (de_v 8) dr_nil)))) (de_v 9)) (dw_or1 (dt_cmp (opNe hu) ok_ne.vv (de_cmp (opEq hu) ok_eq.vv (de_v 9) de_int) (de_cmp (opEq hu) ok_eq.vv (de_v 3) (de_v 4))))))) (dss_one (ds_ret de_bl)) dss_nil)
  (dss_cons (ds_if (dt_cmp op_gt ok_gt (de_call ((t__law_least T).mono (by omega)) hr takes0 (dr_va (de_add (de_v 3) (de_v 5)) (dr_va (de_add (de_v 4) (de_v 6)) (dr_va (de_v 7) dr_nil)))) (de_add (de_v 9) (de_call ((t__law_least T).mono (by omega)) hr takes0 (dr_va (de_v 5) (dr_va (de_v 6) (dr_va (de_v 7) dr_nil)))))) (dss_one (ds_ret de_bl)) dss_nil)
  (dss_cons (ds_if (dt_cmp op_gt ok_gt (de_call ((t__law_least T).mono (by omega)) hr takes0 (dr_va (de_v 3) (dr_va (de_v 4) (dr_va (de_v 7) dr_nil)))) (de_add (de_call ((t__law_least T).mono (by omega)) hr takes0 (dr_va (de_v 3) (dr_va (de_v 5) (dr_va (de_v 7) dr_nil)))) (de_call ((t__law_least T).mono (by omega)) hr takes0 (dr_va (de_v 5) (dr_va (de_v 4) (dr_va (de_v 7) dr_nil)))))) (dss_one (ds_ret de_bl)) dss_nil)
  (dss_cons (ds_if (DW.dt (dw_or (dt_cmp op_gt ok_gt (de_b1 call_abs ok_abs (de_dp (de_sub (de_call ((t__law_least T).mono (by omega)) hr takes0 (dr_va (de_add (de_v 3) (de_tupn (dn_cons de_int dn_nil))) (dr_va (de_v 4) (dr_va (de_v 7) dr_nil)))) (de_v 9))) T.z_abs bb_abs) (de_b2 (call_max2 rfl) ok_max2 (de_ixP 7 de_int) (de_ixP 7 de_int) T.z_max bb_max)) (dw_or1 (dt_cmp op_gt ok_gt (de_call ((t__law_least T).mono (by omega)) hr takes0 (dr_va (de_add (de_v 5) (de_v 3)) (dr_va (de_add (de_v 5) (de_v 4)) (dr_va (de_v 7) dr_nil)))) (de_v 9))))) (dss_one (ds_ret de_bl)) dss_nil)
  (dss_cons (ds_to (de_call ((t_edit_paper T).mono (by omega)) hr takes0 (dr_va (de_v 3) (dr_va (de_v 4) (dr_va (de_v 7) dr_nil)))) (dg_tl rfl (dgs_cons (dg_n sc_law.nd) (dgs_cons (dg_n sc_law.nd) (dgs_cons (dg_n sc_law.nd) dgs_nil)))))
  (dss_cons (ds_setC (own := [(("word" : Str), 21)]) rfl sc_law.nd (di_l (de_lst (dn_cons de_str (dn_cons de_str (dn_cons de_str (dn_cons de_str dn_nil)))))) (blkOk_by (by kernel_rfl)) (fun s H C cl fp => (dg_n sc_law.nd)) (fun s H C cl fp => dts_nil) (fun s H C cl fp => (de_metT PySem.F.slot_tuple_count PySem.F.type_tuple_count (mt_ctT hu) (de_v 11) (de_v 21))))
  (dss_cons (ds_if (DW.dt (dw_or (dt_cmp (opNe hu) ok_ne.vv (de_add (de_add (de_ixP 13 de_int) (de_ixP 13 de_int)) (de_ixP 13 de_int)) (de_len (dp_v 3) T.z_len)) (dw_or (dt_cmp (opNe hu) ok_ne.vv (de_add (de_add (de_ixP 13 de_int) (de_ixP 13 de_int)) (de_ixP 13 de_int)) (de_len (dp_v 4) T.z_len)) (dw_or1 (dt_cmp (opNe hu) ok_ne.vv (de_v 10) (de_add (de_add (de_mul (de_ixP 13 de_int) (de_ixP 7 de_int)) (de_mul (de_ixP 13 de_int) (de_ixP 7 de_int))) (de_mul (de_ixP 13 de_int) (de_ixP 7 de_int)))))))) (dss_one (ds_ret de_bl)) dss_nil)
  (dss_cons (ds_set sc_law.nd (de_sdisp (pps_s (pps_s (pps_s (pps_s pps_0))))))
  (dss_cons (ds_set sc_law.nd (de_call ((t_edit_table T).mono (by omega)) hr takes0 (dr_va (de_v 4) (dr_va (de_v 3) (dr_va (de_v 8) dr_nil)))))
  (dss_cons (ds_if (dt_cmp op_not ok_not (de_call ((t_takes_edit T).mono (by omega)) hr takes0 (dr_va (de_v 4) (dr_va (de_v 3) (dr_va (de_v 8) (dr_va (de_tupn (dn_cons (de_v 10) (dn_cons (de_t1 call_tupleF ok_tuple (de_dp (de_comp (own := [(("word" : Str), 21)]) rfl sc_law.nd (di_l (de_v 11)) (blkOk_by (by kernel_rfl)) (fun s H C cl fp => (dg_n sc_law.nd)) (fun s H C cl fp => dts_nil) (fun s H C cl fp => (de_dget 14 (hu1 hu) (de_v 21))))) T.z_tuple bb_tuple) (dn_cons (de_v 15) dn_nil)))) dr_nil))))) de_bl) (dss_one (ds_ret de_bl)) dss_nil)
  (dss_cons (ds_set sc_law.nd (de_tupn (dn_cons (de_ixP 7 de_int) (dn_cons (de_ixP 7 de_int) (dn_cons (de_add (de_ixP 7 de_int) (de_ixP 7 de_int)) dn_nil)))))
  (dss_cons (ds_set sc_law.nd (de_call ((t_common T).mono (by omega)) hr takes0 (dr_va (de_v 3) (dr_va (de_v 4) dr_nil))))
  (dss_cons (ds_if (dt_cmp (opNe hu) ok_ne.vv (de_call ((t__law_least T).mono (by omega)) hr takes0 (dr_va (de_v 3) (dr_va (de_v 4) (dr_va (de_v 16) dr_nil)))) (de_add (de_mul (de_sub (de_len (dp_v 3) T.z_len) (de_v 17)) (de_ixP 7 de_int)) (de_mul (de_sub (de_len (dp_v 4) T.z_len) (de_v 17)) (de_ixP 7 de_int)))) (dss_one (ds_ret de_bl)) dss_nil)
  (dss_cons (ds_set sc_law.nd (de_t1 call_tupleF ok_tuple (de_dp (de_comp (own := [(("k" : Str), 20)]) rfl sc_law.nd (di_r1 (de_len (dp_v 3) T.z_len) T.z_range) (blkOk_by (by kernel_rfl)) (fun s H C cl fp => (dg_n sc_law.nd)) (fun s H C cl fp => (dts_one (dt_cmp (opEq hu) ok_eq.vv (de_call ((t__law_take T).mono (by omega)) hr takes0 (dr_lent 1 (dr_va de_int dr_nil))) de_int))) (fun s H C cl fp => (de_ixP 3 (de_v 20))))) T.z_tuple bb_tuple))
  (dss_one (ds_ret (de_and (de_cmp op_le ok_le (de_call ((t__law_least T).mono (by omega)) hr takes0 (dr_va (de_v 3) (dr_va (de_v 18) (dr_va (de_v 7) dr_nil)))) (de_mul (de_sub (de_len (dp_v 3) T.z_len) (de_len (dp_v 18) T.z_len)) (de_ixP 7 de_int))) (de_and (de_cmp (opEq hu) ok_eq.vv (de_call ((t_common T).mono (by omega)) hr takes0 (dr_va (de_v 3) (dr_va (de_v 18) dr_nil))) (de_len (dp_v 18) T.z_len)) (de_one (de_chain (opEq hu) op_le ok_eq.vv ok_le (de_call ((t_common T).mono (by omega)) hr takes0 (dr_va (de_v 3) (dr_va (de_v 4) dr_nil))) (de_call ((t_common T).mono (by omega)) hr takes0 (dr_va (de_v 4) (dr_va (de_v 3) dr_nil))) (de_b2 (call_min2 rfl) ok_min2 (de_len (dp_v 3) T.z_len) (de_len (dp_v 4) T.z_len) T.z_min bb_min)))))))))))))))))))))))))))
end
end G
end Fx
end

section
set_option linter.all false
/-! Px: how simp runs the combinators (written by mkpx.py). -/
namespace Fx
@[simp] theorem s_eC (d : D) (e : En) : eC d e = (.ok (.v d) e) := id rfl
@[simp] theorem s_eV (i : Nat) (e : En) : eV i e = (match e[i]? with
  | some (some (.v d)) => .ok (.v d) e
  | some (some (.o l)) => .ok (.v (.lst l)) (e.set i (some (.v (.lst l))))
  | some (some (.oo l)) => .ok (.v (.lst (l.map .lst))) (e.set i (some (.v (.lst (l.map .lst)))))
  | _ => .bad) := id rfl
@[simp] theorem s_eP (i : Nat) (e : En) : eP i e = (match e[i]? with
  | some (some x) => if x.flat then lift (x.d.map .v) e else .bad
  | _ => .bad) := id rfl
@[simp] theorem s_e1 (f : Vl → Option Vl) (a : M Vl) (e : En) : e1 f a e = ((a e).then fun x e => lift (f x) e) := id rfl
@[simp] theorem s_e2 (f : Vl → Vl → Option Vl) (a b : M Vl) (e : En) : e2 f a b e = ((a e).then fun x e => (b e).then fun y e => lift (f x y) e) := id rfl
@[simp] theorem s_tB (a : M Vl) (e : En) : tB a e = ((a e).then fun x e => lift x.bool e) := id rfl
@[simp] theorem s_tT (a : M Vl) (e : En) : tT a e = ((a e).then fun x e => lift x.truth e) := id rfl
@[simp] theorem s_tAnd (a b : M Bool) (e : En) : tAnd a b e = ((a e).then fun c e => if c then b e else .ok false e) := id rfl
@[simp] theorem s_tOr (a b : M Bool) (e : En) : tOr a b e = ((a e).then fun c e => if c then .ok true e else b e) := id rfl
@[simp] theorem s_tNot (a : M Bool) (e : En) : tNot a e = ((a e).then fun c e => .ok (!c) e) := id rfl
@[simp] theorem s_eB (a : M Bool) (e : En) : eB a e = ((a e).then fun c e => .ok (.v (.bl c)) e) := id rfl
@[simp] theorem s_eIf (t : M Bool) (a b : M Vl) (e : En) : eIf t a b e = ((t e).then fun c e => if c then a e else b e) := id rfl
@[simp] theorem s_eNil (e : En) : eNil  e = (.ok [] e) := id rfl
@[simp] theorem s_eCons (a : M Vl) (r : M (List D)) (e : En) : eCons a r e = ((a e).then fun x e => match x.d with
  | some d => (r e).then fun ds e => .ok (d :: ds) e
  | none => .bad) := id rfl
@[simp] theorem s_eTup (r : M (List D)) (e : En) : eTup r e = ((r e).then fun ds e => .ok (.v (.tup ds)) e) := id rfl
@[simp] theorem s_eLst (r : M (List D)) (e : En) : eLst r e = ((r e).then fun ds e => .ok (.o ds) e) := id rfl
@[simp] theorem s_eIxP (k : Nat) (b : M Vl) (e : En) : eIxP k b e = (match e[k]? with
  | some (some _) => (b e).then fun y e => (match e[k]? with
    | some (some x) => lift (oIx x y) e
    | _ => .bad)
  | _ => .bad) := id rfl
@[simp] theorem s_nI (i : Int) (e : En) : nI i e = (some i) := id rfl
@[simp] theorem s_nV (k : Nat) (e : En) : nV k e = (match e[k]? with
  | some (some (.v (.int i))) => some i
  | _ => none) := id rfl
@[simp] theorem s_nAdd (a b : N) (e : En) : nAdd a b e = ((a e).bind fun i => (b e).map fun j => i + j) := id rfl
@[simp] theorem s_nSub (a b : N) (e : En) : nSub a b e = ((a e).bind fun i => (b e).map fun j => i - j) := id rfl
@[simp] theorem s_nNeg (a : N) (e : En) : nNeg a e = ((a e).map fun i => -i) := id rfl
@[simp] theorem s_eIxPP (k : Nat) (a b : N) (e : En) : eIxPP k a b e = (match e[k]?, a e, b e with
  | some (some (.oo l)), some i, some j => lift (((atD l i).bind fun r => atD r j).map .v) e
  | _, _, _ => .bad) := id rfl
@[simp] theorem s_eLenO (k : Nat) (e : En) : eLenO k e = (match e[k]? with
  | some (some (.oo l)) => .ok (.v (.int l.length)) e
  | _ => .bad) := id rfl
@[simp] theorem s_pNo (e : En) : pNo  e = (.ok none e) := id rfl
@[simp] theorem s_pSome (a : M Vl) (e : En) : pSome a e = ((a e).then fun x e => lift (x.int.map some) e) := id rfl
@[simp] theorem s_eCut (a : M Vl) (lo hi : M (Option Int)) (e : En) : eCut a lo hi e = ((a e).then fun x e => (lo e).then fun l e => (hi e).then fun h e => lift (oCut x l h) e) := id rfl
@[simp] theorem s_eChain (f g : Vl → Vl → Option Vl) (a b c : M Vl) (e : En) : eChain f g a b c e = ((a e).then fun x e => (b e).then fun y e => match y, f x y with
  | .v _, some (.v (.bl true)) => (c e).then fun z e => lift (g y z) e
  | .v _, some (.v (.bl false)) => .ok (.v (.bl false)) e
  | _, _ => .bad) := id rfl
@[simp] theorem s_kMet (f : List D → D → Option D) (l : List D) (y : Vl) (e : En) : kMet f l y e = (match y.d with
  | some d => if d.dep ≤ 60 then lift ((f l d).map .v) e else .bad
  | none => .bad) := id rfl
@[simp] theorem s_kMetT (f : List D → D → Option D) (b : M Vl) (x : Vl) (e : En) : kMetT f b x e = (match x with
  | .v (.tup l) => (b e).then fun y e => kMet f l y e
  | _ => .bad) := id rfl
@[simp] theorem s_eMetT (f : List D → D → Option D) (a b : M Vl) (e : En) : eMetT f a b e = ((a e).then (kMetT f b)) := id rfl
@[simp] theorem s_kMetL (f : List D → D → Option D) (b : M Vl) (x : Vl) (e : En) : kMetL f b x e = (match x.lst? with
  | some l => (b e).then fun y e => kMet f l y e
  | none => .bad) := id rfl
@[simp] theorem s_eMetL (f : List D → D → Option D) (a b : M Vl) (e : En) : eMetL f a b e = ((a e).then (kMetL f b)) := id rfl
@[simp] theorem s_eAnd (a b : M Vl) (e : En) : eAnd a b e = ((a e).then fun x e => match x.bool with
  | some true => b e
  | some false => .ok (.v (.bl false)) e
  | none => .bad) := id rfl
@[simp] theorem s_eOr (a b : M Vl) (e : En) : eOr a b e = ((a e).then fun x e => match x.bool with
  | some true => .ok (.v (.bl true)) e
  | some false => b e
  | none => .bad) := id rfl
@[simp] theorem s_eCode (x : Ex) (e : En) : eCode x e = (match x.fs with
  | [("code", d)] => .ok (.v d) e
  | _ => .bad) := id rfl
@[simp] theorem s_iL (a : M Vl) (e : En) : iL a e = ((a e).then fun x e => lift x.items e) := id rfl
@[simp] theorem s_iR1 (a : M Vl) (e : En) : iR1 a e = ((a e).then fun x e => match x with
  | .v (.int j) => if smallI j then .ok (rng 0 j.toNat) e else .bad
  | _ => .bad) := id rfl
@[simp] theorem s_iR2 (a b : M Vl) (e : En) : iR2 a b e = ((a e).then fun x e => (b e).then fun y e => match x, y with
  | .v (.int i), .v (.int j) => if smallI i && smallI j then .ok (rng i (j - i).toNat) e else .bad
  | _, _ => .bad) := id rfl
@[simp] theorem s_iRv (k : Nat) (e : En) : iRv k e = (match e[k]? with
  | some (some (.rg lo hi)) => if smallI lo && smallI hi then .ok (rng lo (hi - lo).toNat) e else .bad
  | _ => .bad) := id rfl
@[simp] theorem s_kLr1 (x : Vl) (e : En) : kLr1 x e = (match x with
  | .v (.int j) => if rgOk 0 j then .ok (.o (rng 0 j.toNat)) e else .bad
  | _ => .bad) := id rfl
@[simp] theorem s_eLr1 (a : M Vl) (e : En) : eLr1 a e = ((a e).then kLr1) := id rfl
@[simp] theorem s_kLr2 (x y : Vl) (e : En) : kLr2 x y e = (match x, y with
  | .v (.int i), .v (.int j) => if rgOk i j then .ok (.o (rng i (j - i).toNat)) e else .bad
  | _, _ => .bad) := id rfl
@[simp] theorem s_eLr2 (a b : M Vl) (e : En) : eLr2 a b e = ((a e).then fun x e => (b e).then fun y e => kLr2 x y e) := id rfl
@[simp] theorem s_kTr1 (x : Vl) (e : En) : kTr1 x e = (match x with
  | .v (.int j) => if rgOk 0 j then .ok (.v (.tup (rng 0 j.toNat))) e else .bad
  | _ => .bad) := id rfl
@[simp] theorem s_eTr1 (a : M Vl) (e : En) : eTr1 a e = ((a e).then kTr1) := id rfl
@[simp] theorem s_kTr2 (x y : Vl) (e : En) : kTr2 x y e = (match x, y with
  | .v (.int i), .v (.int j) => if rgOk i j then .ok (.v (.tup (rng i (j - i).toNat))) e else .bad
  | _, _ => .bad) := id rfl
@[simp] theorem s_eTr2 (a b : M Vl) (e : En) : eTr2 a b e = ((a e).then fun x e => (b e).then fun y e => kTr2 x y e) := id rfl
@[simp] theorem s_iEnum (a : M Vl) (e : En) : iEnum a e = ((a e).then fun x e => lift (x.items.map (enumD 0)) e) := id rfl
@[simp] theorem s_iZip (a b : M Vl) (e : En) : iZip a b e = ((a e).then fun x e => (b e).then fun y e => match x.items, y.items with
  | some l, some m => .ok (zipD l m) e
  | _, _ => .bad) := id rfl
@[simp] theorem s_kZip (x y : Vl) (e : En) : kZip x y e = (match x, y with
  | .v (.tup l), .v (.tup m) => .ok (zipD l m) e
  | .v (.lst l), .v (.lst m) => .ok (zipD l m) e
  | _, _ => .bad) := id rfl
@[simp] theorem s_iZipS (a b : M Vl) (e : En) : iZipS a b e = ((a e).then fun x e => (b e).then fun y e => kZip x y e) := id rfl
@[simp] theorem s_gN (i : Nat) (d : D) (e : En) : gN i d e = (some (e.set i (some (.v d)))) := id rfl
@[simp] theorem s_gT (r : List (D → En → Option En)) (d : D) (e : En) : gT r d e = (match d with
  | .tup l => gs r l e
  | _ => none) := id rfl
@[simp] theorem s_gL (r : List (D → En → Option En)) (d : D) (e : En) : gL r d e = (match d with
  | .tup l => gs r l e
  | .lst l => gs r l e
  | _ => none) := id rfl
@[simp] theorem s_gIx (k : Nat) (f : N) (d : D) (e : En) : gIx k f d e = (match e[k]?, f e with
  | some (some (.o l)), some i => (ixN l.length i).map fun j => e.set k (some (.o (l.set j d)))
  | _, _ => none) := id rfl
@[simp] theorem s_gIxM (k : Nat) (m : M Vl) (d : D) (e : En) : gIxM k m d e = (match e[k]? with
  | some (some (.o _)) => (match m e with
    | .ok (.v (.int i)) e1 => (match e1[k]? with
      | some (some (.o l)) => (ixN l.length i).map fun j => e1.set k (some (.o (l.set j d)))
      | _ => none)
    | _ => none)
  | _ => none) := id rfl
@[simp] theorem s_gIx2 (k : Nat) (f g : N) (d : D) (e : En) : gIx2 k f g d e = (match e[k]?, f e, g e with
  | some (some (.oo l)), some i, some j => (ixN l.length i).bind fun a => (l[a]?).bind fun r => (ixN r.length j).map fun b => e.set k (some (.oo (l.set a (r.set b d))))
  | _, _, _ => none) := id rfl
@[simp] theorem s_mApp (k : Nat) (a : M Vl) (e : En) : mApp k a e = (match e[k]? with
  | some (some (.o _)) => (a e).then fun y e => (match y.d, e[k]? with
    | some d, some (some (.o l)) => if l.length < lim then .ok (.v .non) (e.set k (some (.o (l ++ [d])))) else .bad
    | _, _ => .bad)
  | _ => .bad) := id rfl
@[simp] theorem s_mExt (k : Nat) (a : M Vl) (e : En) : mExt k a e = (match e[k]? with
  | some (some (.o _)) => (a e).then fun y e => (match y, e[k]? with
    | .o r, some (some (.o l)) => if l.length + r.length ≤ lim then .ok (.v .non) (e.set k (some (.o (l ++ r)))) else .bad
    | _, _ => .bad)
  | _ => .bad) := id rfl
@[simp] theorem s_mPop (k : Nat) (a : M Vl) (e : En) : mPop k a e = (match e[k]? with
  | some (some (.o _)) => (a e).then fun y e => (match y, e[k]? with
    | .v (.int i), some (some (.o l)) => if smallI i then (match ixN l.length i with
      | some j => (match l[j]? with
        | some d => .ok (.v d) (e.set k (some (.o (l.eraseIdx j))))
        | none => .bad)
      | none => .bad) else .bad
    | _, _ => .bad)
  | _ => .bad) := id rfl
@[simp] theorem s_mPop0 (k : Nat) (e : En) : mPop0 k e = (match e[k]? with
  | some (some (.o l)) => (match l[l.length - 1]? with
    | some d => .ok (.v d) (e.set k (some (.o l.dropLast)))
    | none => .bad)
  | _ => .bad) := id rfl
@[simp] theorem s_tYes (e : En) : tYes  e = (.ok true e) := id rfl
@[simp] theorem s_eCall (f : F) (as : List Ar) (e : En) : eCall f as e = ((args as e).then fun l e => match f l with
  | .ok x outs => (match puts as outs e with
    | some e => .ok x e
    | none => .bad)
  | .ex x => .ex x (kill as e)
  | .bad => .bad) := id rfl
@[simp] theorem s_sNil (e : En) : sNil  e = (.nxt e) := id rfl
@[simp] theorem s_sSeq (a b : C) (e : En) : sSeq a b e = (match a e with
  | .nxt e => b e
  | o => o) := id rfl
@[simp] theorem s_sIf (t : M Bool) (a b : C) (e : En) : sIf t a b e = (match t e with
  | .ok c e => if c then a e else b e
  | .ex x e => .ex x e
  | .bad => .bad) := id rfl
@[simp] theorem s_sRet (a : M Vl) (e : En) : sRet a e = (match a e with
  | .ok x e => .ret x e
  | .ex x e => .ex x e
  | .bad => .bad) := id rfl
@[simp] theorem s_sDrop (a : M Vl) (e : En) : sDrop a e = (match a e with
  | .ok _ e => .nxt e
  | .ex x e => .ex x e
  | .bad => .bad) := id rfl
@[simp] theorem s_sSet (i : Nat) (a : M Vl) (e : En) : sSet i a e = (match a e with
  | .ok x e => .nxt (e.set i (some x))
  | .ex x e => .ex x e
  | .bad => .bad) := id rfl
@[simp] theorem s_sTo (g : D → En → Option En) (a : M Vl) (e : En) : sTo g a e = (match a e with
  | .ok x e => (match x.d.bind fun d => g d e with
    | some e => .nxt e
    | none => .bad)
  | .ex x e => .ex x e
  | .bad => .bad) := id rfl
@[simp] theorem s_sPar (i j : Nat) (r : M (List D)) (e : En) : sPar i j r e = (match r e with
  | .ok [x, y] e => .nxt ((e.set i (some (.v x))).set j (some (.v y)))
  | .ok _ _ => .bad
  | .ex x e => .ex x e
  | .bad => .bad) := id rfl
@[simp] theorem s_sPar3 (i j k : Nat) (r : M (List D)) (e : En) : sPar3 i j k r e = (match r e with
  | .ok [x, y, z] e => .nxt (((e.set i (some (.v x))).set j (some (.v y))).set k (some (.v z)))
  | .ok _ _ => .bad
  | .ex x e => .ex x e
  | .bad => .bad) := id rfl
@[simp] theorem s_sAug (i : Nat) (f : Int → Int → Int) (a : M Vl) (e : En) : sAug i f a e = (match e[i]? with
  | some (some (.v (.int x))) => (match a e with
    | .ok (.v (.int y)) e => .nxt (e.set i (some (.v (.int (f x y)))))
    | .ok _ _ => .bad
    | .ex x e => .ex x e
    | .bad => .bad)
  | _ => .bad) := id rfl
@[simp] theorem s_sAugIx (k : Nat) (f : N) (m : M Vl) (e : En) : sAugIx k f m e = (match e[k]?, f e with
  | some (some (.oo l)), some i => if 0 ≤ i then (match l[i.toNat]? with
    | some r => (match m (e.set k none) with
      | .ok (.o z) e2 => if r.length + z.length ≤ lim then .nxt (e2.set k (some (.oo (l.set i.toNat (r ++ z))))) else .bad
      | .ok _ _ => .bad
      | .ex x e2 => .ex x e2
      | .bad => .bad)
    | none => .bad) else .bad
  | _, _ => .bad) := id rfl
@[simp] theorem s_mAppO (k : Nat) (a : M Vl) (e : En) : mAppO k a e = (match e[k]? with
  | some (some (.oo _)) => (a e).then fun y e => (match y, e[k]? with
    | .o z, some (some (.oo l)) => if l.length < lim then .ok (.v .non) (e.set k (some (.oo (l ++ [z])))) else .bad
    | _, _ => .bad)
  | _ => .bad) := id rfl
@[simp] theorem s_sRaise (c : String) (a : M Vl) (e : En) : sRaise c a e = (match a e with
  | .ok x e => (match x.d with
    | some d => .ex ⟨c, [("code", d)]⟩ e
    | none => .bad)
  | .ex x e => .ex x e
  | .bad => .bad) := id rfl
@[simp] theorem s_sTry (b : C) (cs ns : List String) (i : Nat) (s : Ex → C) (e : En) : sTry b cs ns i s e = (match b e with
  | .ex x e => if cs.contains x.cls then if i < e.length then (match s x (e.set i none) with
    | .nxt e => .nxt (e.set i none)
    | .brk e => .brk (e.set i none)
    | .cnt e => .cnt (e.set i none)
    | .ret y e => .ret y (e.set i none)
    | _ => .bad) else .bad else if ns.contains x.cls then .ex x e else .bad
  | o => o) := id rfl
@[simp] theorem s_eFld (x : Ex) (n : String) (e : En) : eFld x n e = (match x.fs.lookup n with
  | some d => .ok (.v d) e
  | none => .bad) := id rfl
@[simp] theorem s_sFor (it : M (List D)) (g : D → En → Option En) (b : C) (e : En) : sFor it g b e = (match it e with
  | .ok l e => forGo g b l e
  | .ex x e => .ex x e
  | .bad => .bad) := id rfl
@[simp] theorem s_runDef (n : Nat) (lent : List Nat) (b : C) (l : List Vl) : runDef n lent b l = (match b (l.map some ++ List.replicate (n - l.length) none) with
  | .nxt e => (match outs lent e with
    | some os => .ok (.v .non) os
    | none => .bad)
  | .ret x e => (match outs lent e with
    | some os => .ok x os
    | none => .bad)
  | .ex x _ => .ex x
  | _ => .bad) := id rfl
@[simp] theorem s_lift_some {α : Type} (a : α) (e : En) : lift (some a) e = .ok a e := rfl
@[simp] theorem s_lift_none {α : Type} (e : En) : lift (none : Option α) e = .bad := rfl
@[simp] theorem s_args_nil (e : En) : args [] e = .ok [] e := rfl
@[simp] theorem s_args_va (m : M Vl) (r : List Ar) (e : En) : args (.va m :: r) e = (m e).then fun x e => match x.d with
    | some d => (args r e).then fun l e => .ok (.v d :: l) e
    | none => .bad := rfl
@[simp] theorem s_args_lent (i : Nat) (r : List Ar) (e : En) : args (.lent i :: r) e = match e[i]? with
    | some (some _) => (args r e).then fun l e => (match e[i]? with
      | some (some x) => if x.own then .ok (x :: l) e else .bad
      | _ => .bad)
    | _ => .bad := rfl
@[simp] theorem s_puts_nil (e : En) : puts [] [] e = some e := rfl
@[simp] theorem s_puts_va (m : M Vl) (r : List Ar) (l : List Vl) (e : En) : puts (.va m :: r) l e = puts r l e := by cases l <;> rfl
@[simp] theorem s_puts_lent (i : Nat) (r : List Ar) (x : Vl) (l : List Vl) (e : En) : puts (.lent i :: r) (x :: l) e = puts r l (e.set i (some x)) := rfl
@[simp] theorem s_outs_nil (e : En) : outs [] e = some [] := rfl
@[simp] theorem s_outs_cons (i : Nat) (r : List Nat) (e : En) : outs (i :: r) e = match e[i]? with
  | some (some x) => (outs r e).map (x :: ·)
  | _ => none := rfl
@[simp] theorem s_forGo_nil (g : D → En → Option En) (b : C) (e : En) : forGo g b [] e = .nxt e := rfl
@[simp] theorem s_gs_nil (e : En) : gs [] [] e = some e := rfl
@[simp] theorem s_gs_cons (g : D → En → Option En) (r : List (D → En → Option En)) (d : D) (l : List D) (e : En) : gs (g :: r) (d :: l) e = (g d e).bind (gs r l) := rfl
@[simp] theorem s_vd (d : D) : (Vl.v d).d = some d := rfl
@[simp] theorem s_od (l : List D) : (Vl.o l).d = some (.lst l) := rfl
@[simp] theorem s_ood (l : List (List D)) : (Vl.oo l).d = some (.lst (l.map .lst)) := rfl
@[simp] theorem s_oown (l : List D) : (Vl.o l).own = true := rfl
@[simp] theorem s_oflat (l : List D) : (Vl.o l).flat = true := rfl
@[simp] theorem s_vflat (d : D) : (Vl.v d).flat = true := rfl
end Fx
end

section
set_option linter.all false
/-! Py: plain laws about the loops. -/
namespace Fx
theorem compGo1 {k : Nat} {t : M Bool} {x : M Vl} {e : En} (P : D → Bool) (f : D → D) : ∀ (l acc : List D),
    (∀ d ∈ l, t (e.set k (some (.v d))) = .ok (P d) (e.set k (some (.v d)))) → (∀ d ∈ l, P d = true → ∃ y, x (e.set k (some (.v d))) = .ok y (e.set k (some (.v d))) ∧ y.d = some (f d)) →
    compGo [k] (gN k) t x l acc (e.set k none) = .ok (acc ++ (l.filter P).map f) (e.set k none)
  | [], acc, _, _ => by simp [compGo]
  | d :: l, acc, ht, hx => by
    have h1 := ht d (by simp)
    unfold compGo
    simp only [s_gN, List.set_set, h1]
    cases hp : P d with
    | false =>
      simp only [hide, List.set_set]
      rw [compGo1 P f l acc (fun d q => ht d (by simp [q])) (fun d q => hx d (by simp [q]))]
      simp [hp]
    | true =>
      obtain ⟨y, h2, h3⟩ := hx d (by simp) hp
      simp only [h2, h3, hide, List.set_set]
      rw [compGo1 P f l _ (fun d q => ht d (by simp [q])) (fun d q => hx d (by simp [q]))]
      simp [hp]
theorem set_none {e : En} {k : Nat} (h : e[k]? = some none) : e.set k none = e := by
  apply List.ext_getElem?
  intro j
  by_cases hj : k = j
  · subst hj
    rw [List.getElem?_set_self (by rcases Nat.lt_or_ge k e.length with q | q; exact q; rw [List.getElem?_eq_none q] at h; cases h), h]
  · rw [List.getElem?_set_ne hj]
theorem eComp1 {k : Nat} {it : M (List D)} {t : M Bool} {x : M Vl} {e e1 : En} {l : List D} (P : D → Bool) (f : D → D) (hit : it e = .ok l e1) (hl : l.length ≤ lim) (hk : e1[k]? = some none)
    (ht : ∀ d ∈ l, t (e1.set k (some (.v d))) = .ok (P d) (e1.set k (some (.v d)))) (hx : ∀ d ∈ l, P d = true → ∃ y, x (e1.set k (some (.v d))) = .ok y (e1.set k (some (.v d))) ∧ y.d = some (f d)) :
    eComp [k] it (gN k) t x e = .ok (.o ((l.filter P).map f)) e1 := by
  have h := compGo1 (k := k) P f l [] ht hx
  unfold eComp
  simp only [hit, Rs.then, hl, if_true, hide, h, unhide, List.nil_append, hk, List.set_set]
  rw [show keepD (some none) = none from rfl, set_none hk]
theorem eCompA {k : Nat} {it : M (List D)} {x : M Vl} {e e1 : En} {l : List D} (f : D → D) (hit : it e = .ok l e1) (hl : l.length ≤ lim) (hk : e1[k]? = some none)
    (hx : ∀ d ∈ l, ∃ y, x (e1.set k (some (.v d))) = .ok y (e1.set k (some (.v d))) ∧ y.d = some (f d)) :
    eComp [k] it (gN k) tYes x e = .ok (.o (l.map f)) e1 := by
  have h := eComp1 (t := tYes) (fun _ => true) f hit hl hk (fun _ _ => rfl) (fun d q _ => hx d q)
  rw [List.filter_eq_self.mpr (by simp)] at h
  exact h
theorem forGo_nxt {g : D → En → Option En} {b : C} (I : En → Prop) : ∀ (l : List D) (e : En), I e → (∀ d ∈ l, ∀ e, I e → ∃ e1 e2, g d e = some e1 ∧ b e1 = .nxt e2 ∧ I e2) → ∃ e', forGo g b l e = .nxt e' ∧ I e'
  | [], e, hi, _ => ⟨e, rfl, hi⟩
  | d :: l, e, hi, h => by
    obtain ⟨e1, e2, h1, h2, h3⟩ := h d (by simp) e hi
    obtain ⟨e', h4, h5⟩ := forGo_nxt I l e2 h3 fun d q => h d (by simp [q])
    refine ⟨e', ?_, h5⟩
    unfold forGo
    simp only [h1, h2, h4]
theorem bools_map (f : D → Bool) : ∀ l : List D, D.bools (l.map fun d => .bl (f d)) = some (l.map f)
  | [] => rfl
  | a :: l => by simp [D.bools, bools_map f l]
theorem ints_map : ∀ l : List Int, D.ints (l.map .int) = some l
  | [] => rfl
  | a :: l => by simp [D.ints, ints_map l]
def ti (r : List Int) : D := .tup (r.map .int)
def tt (T : List (List Int)) : D := .tup (T.map ti)
@[simp] theorem ti_items (r : List Int) : (ti r).items = some (r.map .int) := rfl
@[simp] theorem tt_items (T : List (List Int)) : (tt T).items = some (T.map ti) := rfl
@[simp] theorem v_items (d : D) : (Vl.v d).items = d.items := rfl
@[simp] theorem o_items (l : List D) : (Vl.o l).items = some l := rfl
@[simp] theorem lst_items (l : List D) : (D.lst l).items = some l := rfl
@[simp] theorem tup_items (l : List D) : (D.tup l).items = some l := rfl
@[simp] theorem ti_isA (r : List Int) : (ti r).isA .tTuple = true := rfl
@[simp] theorem tt_isA (T : List (List Int)) : (tt T).isA .tTuple = true := rfl
@[simp] theorem isA_v (t : Ty) (d : D) : oIsA t (.v d) = some (.v (.bl (d.isA t))) := rfl
@[simp] theorem truth_bl (b : Bool) : (Vl.v (.bl b)).truth = some b := rfl
@[simp] theorem bool_bl (b : Bool) : (Vl.v (.bl b)).bool = some b := rfl
@[simp] theorem len_v (d : D) : oLen (.v d) = d.items.map fun l => .v (.int l.length) := rfl
@[simp] theorem len_o (l : List D) : oLen (.o l) = some (.v (.int l.length)) := rfl
@[simp] theorem int_le (i j : Int) : oLe (.v (.int i)) (.v (.int j)) = some (.v (.bl (decide (i ≤ j)))) := rfl
@[simp] theorem int_lt (i j : Int) : oLt (.v (.int i)) (.v (.int j)) = some (.v (.bl (decide (i < j)))) := rfl
@[simp] theorem int_ge (i j : Int) : oGe (.v (.int i)) (.v (.int j)) = some (.v (.bl (decide (j ≤ i)))) := rfl
@[simp] theorem int_gt (i j : Int) : oGt (.v (.int i)) (.v (.int j)) = some (.v (.bl (decide (j < i)))) := rfl
@[simp] theorem int_add (i j : Int) : oAdd (.v (.int i)) (.v (.int j)) = some (.v (.int (i + j))) := rfl
@[simp] theorem int_sub (i j : Int) : oSub (.v (.int i)) (.v (.int j)) = some (.v (.int (i - j))) := rfl
@[simp] theorem int_eq (i j : Int) : oEq (.v (.int i)) (.v (.int j)) = some (.v (.bl (decide (i = j)))) := rfl
@[simp] theorem int_ne (i j : Int) : oNe (.v (.int i)) (.v (.int j)) = some (.v (.bl (!decide (i = j)))) := rfl
@[simp] theorem not_bl (b : Bool) : oNot (.v (.bl b)) = some (.v (.bl (!b))) := rfl
@[simp] theorem any_o (f : D → Bool) (l : List D) : oAny (.o (l.map fun d => .bl (f d))) = some (.v (.bl ((l.map f).any id))) := by simp [oAny, bools_map]
@[simp] theorem all_o (f : D → Bool) (l : List D) : oAll (.o (l.map fun d => .bl (f d))) = some (.v (.bl ((l.map f).all id))) := by simp [oAll, bools_map]
theorem atD_nat {α : Type} (l : List α) (i : Nat) : atD l (i : Int) = l[i]? := by
  unfold atD ixN
  by_cases h : i < l.length
  · simp [h]
  · simp [h]
theorem rng_mem {lo : Int} {n : Nat} {d : D} (h : d ∈ rng lo n) : ∃ k : Nat, k < n ∧ d = .int (lo + k) := by
  unfold rng at h
  simp only [List.mem_map, List.mem_range] at h
  obtain ⟨k, h1, rfl⟩ := h
  exact ⟨k, h1, rfl⟩
theorem enumD_mem : ∀ (l : List D) (k : Nat) (d : D), d ∈ enumD k l → ∃ i x, l[i]? = some x ∧ d = .tup [.int ((k + i : Nat) : Int), x]
  | [], _, _, h => by simp [enumD] at h
  | a :: l, k, d, h => by
    simp only [enumD, List.mem_cons] at h
    rcases h with rfl | h
    · exact ⟨0, a, rfl, by simp⟩
    · obtain ⟨i, x, h1, h2⟩ := enumD_mem l (k + 1) d h
      exact ⟨i + 1, x, by simpa using h1, by rw [h2]; congr 3; omega⟩
theorem ix_v (d : D) (l : List D) (i : Int) (h : d.items = some l) : oIx (.v d) (.v (.int i)) = (atD l i).map .v := by simp [oIx, h]
@[simp] theorem ix_ti (r : List Int) (i : Nat) : oIx (.v (ti r)) (.v (.int (i : Int))) = (r[i]?).map fun x => .v (.int x) := by
  rw [ix_v _ _ _ (ti_items r), atD_nat, List.getElem?_map]
  cases r[i]? <;> rfl
@[simp] theorem ix_tt (T : List (List Int)) (i : Nat) : oIx (.v (tt T)) (.v (.int (i : Int))) = (T[i]?).map fun x => .v (ti x) := by
  rw [ix_v _ _ _ (tt_items T), atD_nat, List.getElem?_map]
  cases T[i]? <;> rfl
theorem getD_of {α : Type} {l : List α} {i : Nat} {x d : α} (h : l[i]? = some x) : l.getD i d = x := by simp [List.getD, h]
theorem get_of {α : Type} {l : List α} {i : Nat} (h : i < l.length) (d : α) : l[i]? = some (l.getD i d) := by simp [List.getD, List.getElem?_eq_getElem h]
theorem iR1_ok {a : M Vl} {e e' : En} {n : Int} (h : a e = .ok (.v (.int n)) e') (hs : smallI n = true) : iR1 a e = .ok (rng 0 n.toNat) e' := by
  unfold iR1
  rw [h]
  simp only [Rs.then]
  rw [if_pos hs]
theorem small_nat {i : Nat} (h : i ≤ 1000000) : smallI (i : Int) = true := small_le (by omega)
theorem iR1_nat {a : M Vl} {e e' : En} {n : Nat} (h : a e = .ok (.v (.int (n : Int))) e') (hs : n ≤ 1000000) : iR1 a e = .ok (rng 0 n) e' := by
  have := iR1_ok h (small_nat hs)
  rwa [Int.toNat_natCast] at this
theorem rng_len (lo : Int) (n : Nat) : (rng lo n).length = n := by simp [rng]
/-- a comprehension whose items change other names -/
theorem compGoI {k : Nat} {x : M Vl} (I : Nat → List D → En → Prop) : ∀ (l : List D) (i : Nat) (acc : List D) (e : En), I i acc e → (∀ j acc e d, j < i + l.length → I j acc e → d ∈ l → ∃ y z e3, x (e.set k (some (.v d))) = .ok y e3 ∧ y.d = some z ∧ I (j + 1) (acc ++ [z]) (e3.set k none)) →
    ∃ acc' e', compGo [k] (gN k) tYes x l acc e = .ok acc' e' ∧ I (i + l.length) acc' e'
  | [], i, acc, e, hi, _ => ⟨acc, e, by simp [compGo], by simpa using hi⟩
  | d :: l, i, acc, e, hi, h => by
    obtain ⟨y, z, e3, h1, h2, h3⟩ := h i acc e d (by simp) hi (by simp)
    obtain ⟨acc', e', h4, h5⟩ := compGoI I l (i + 1) _ _ h3 fun j acc e d' hj hi' hd => h j acc e d' (by rw [List.length_cons]; omega) hi' (by simp [hd])
    refine ⟨acc', e', ?_, by rw [List.length_cons, show i + (l.length + 1) = i + 1 + l.length by omega]; exact h5⟩
    unfold compGo
    simp only [s_gN, s_tYes, h1, h2, hide]
    exact h4
theorem eCompI {k : Nat} {it : M (List D)} {x : M Vl} {e e1 : En} {l : List D} (I : Nat → List D → En → Prop) (hit : it e = .ok l e1) (hl : l.length ≤ lim) (hk : e1[k]? = some none) (h0 : I 0 [] e1)
    (h : ∀ j acc e d, j < l.length → I j acc e → d ∈ l → ∃ y z e3, x (e.set k (some (.v d))) = .ok y e3 ∧ y.d = some z ∧ I (j + 1) (acc ++ [z]) (e3.set k none)) : ∃ acc e2, eComp [k] it (gN k) tYes x e = .ok (.o acc) (e2.set k none) ∧ I l.length acc e2 := by
  obtain ⟨acc, e2, h1, h2⟩ := compGoI (k := k) (x := x) I l 0 [] e1 h0 (by simpa using h)
  refine ⟨acc, e2, ?_, by simpa using h2⟩
  unfold eComp
  simp only [hit, Rs.then, hl, if_true, hide, set_none hk, h1, unhide, hk]
  rfl
/-- two clauses, nothing but the items' own names changed -/
theorem compGo2P {k1 k2 : Nat} {it1 : M (List D)} {t1 : M Bool} {x : M Vl} {e : En} (L : D → List D) (P : D → D → Bool) (f : D → D → D) (m : Nat)
    (he : ∀ d, hide ((e.set k1 (some (.v d))).set k2 none) [k1, k2] = e) : ∀ (l acc : List D), acc.length + l.length * m ≤ lim →
    (∀ d ∈ l, it1 (e.set k1 (some (.v d))) = .ok (L d) (e.set k1 (some (.v d))) ∧ (L d).length ≤ m) →
    (∀ d ∈ l, ∀ c ∈ L d, t1 ((e.set k1 (some (.v d))).set k2 (some (.v c))) = .ok (P d c) ((e.set k1 (some (.v d))).set k2 (some (.v c)))) →
    (∀ d ∈ l, ∀ c ∈ L d, P d c = true → ∃ y, x ((e.set k1 (some (.v d))).set k2 (some (.v c))) = .ok y ((e.set k1 (some (.v d))).set k2 (some (.v c))) ∧ y.d = some (f d c)) →
    compGo2 [k1, k2] [k2] (gN k1) tYes it1 (gN k2) t1 x l acc e = .ok (acc ++ l.flatMap fun d => ((L d).filter (P d)).map (f d)) e
  | [], acc, _, _, _, _ => by simp [compGo2]
  | d :: l, acc, hb, hi, ht, hx => by
    obtain ⟨h1, h2⟩ := hi d (by simp)
    have hc := compGo1 (k := k2) (e := e.set k1 (some (.v d))) (P d) (f d) (L d) acc (ht d (by simp)) (hx d (by simp))
    rw [List.length_cons, Nat.add_mul, Nat.one_mul] at hb
    have hz : acc.length + (L d).length ≤ lim := by omega
    unfold compGo2
    simp only [s_gN, s_tYes, h1, hz, if_true]
    rw [show hide (e.set k1 (some (.v d))) [k2] = (e.set k1 (some (.v d))).set k2 none from rfl, hc]
    dsimp only
    rw [he d]
    have hl : (((L d).filter (P d)).map (f d)).length ≤ m := by
      rw [List.length_map]
      exact Nat.le_trans (List.length_filter_le _ _) h2
    rw [compGo2P L P f m he l _ (by rw [List.length_append]; omega) (fun d q => hi d (by simp [q])) (fun d q => ht d (by simp [q])) (fun d q => hx d (by simp [q]))]
    simp
theorem eComp2P {k1 k2 : Nat} {it it1 : M (List D)} {t1 : M Bool} {x : M Vl} {e e1 : En} {l : List D} (L : D → List D) (P : D → D → Bool) (f : D → D → D) (m : Nat) (hit : it e = .ok l e1) (hk1 : e1[k1]? = some none) (hk2 : e1[k2]? = some none) (hne : k1 ≠ k2) (hb : l.length * m ≤ lim)
    (hi : ∀ d ∈ l, it1 (e1.set k1 (some (.v d))) = .ok (L d) (e1.set k1 (some (.v d))) ∧ (L d).length ≤ m)
    (ht : ∀ d ∈ l, ∀ c ∈ L d, t1 ((e1.set k1 (some (.v d))).set k2 (some (.v c))) = .ok (P d c) ((e1.set k1 (some (.v d))).set k2 (some (.v c))))
    (hx : ∀ d ∈ l, ∀ c ∈ L d, P d c = true → ∃ y, x ((e1.set k1 (some (.v d))).set k2 (some (.v c))) = .ok y ((e1.set k1 (some (.v d))).set k2 (some (.v c))) ∧ y.d = some (f d c)) :
    eComp2 [k1, k2] [k2] it (gN k1) tYes it1 (gN k2) t1 x e = .ok (.o (l.flatMap fun d => ((L d).filter (P d)).map (f d))) e1 := by
  have he0 : hide e1 [k1, k2] = e1 := by
    show (e1.set k2 none).set k1 none = e1
    rw [set_none hk2, set_none hk1]
  have he : ∀ d, hide ((e1.set k1 (some (.v d))).set k2 none) [k1, k2] = e1 := fun d => by
    show ((((e1.set k1 (some (.v d))).set k2 none).set k2 none).set k1 none) = e1
    rw [List.set_set, List.set_comm _ _ hne, List.set_set, List.set_comm _ _ (Ne.symm hne), set_none hk1, set_none hk2]
  have h := compGo2P (k1 := k1) (k2 := k2) L P f m he l [] (by simpa using hb) hi ht hx
  unfold eComp2
  simp only [hit, Rs.then, he0, h, List.nil_append]
  show Rs.ok _ (((e1.set k2 (keepD e1[k2]?))).set k1 (keepD e1[k1]?)) = _
  rw [hk1, hk2, show keepD (some none) = none from rfl, set_none hk2, set_none hk1]
end Fx
end

section
set_option linter.all false
set_option maxRecDepth 10000
/-! Qa: the helpers that all laws share. LAW_D is written by gen.py. -/
namespace Fx
/-- the script's reader -/
structure Rd where
  cells : List Int
  i : Nat
  cur : Int
  seed : Int
def Rd.v (s : Rd) : Vl := .o [.lst (s.cells.map .int), .int s.i, .int s.cur, .int s.seed]
theorem divOk_of {m : Int} (h : 0 < m) (h2 : m ≤ 1000000) : divOk m = true := by
  unfold divOk
  have : m.natAbs < 2 ^ 20 := by omega
  have h3 : m.natAbs.log2 < 20 := (Nat.log2_lt (by omega)).mpr this
  simp
  omega
theorem take_spec (s : Rd) (m : Int) (h : 0 < m) (h2 : m ≤ 1000000) : ∃ r s', 0 ≤ r ∧ r < m ∧ G.F__law_take [s.v, .v (.int m)] = .ok (.v (.int r)) [Rd.v s'] := by
  obtain ⟨cells, i, cur, seed⟩ := s
  have hm0 : m ≠ 0 := by omega
  have md : ∀ z : Int, 0 ≤ z % m ∧ z % m < m := fun z => ⟨Int.emod_nonneg z hm0, Int.emod_lt_of_pos z h⟩
  have hd := divOk_of h h2
  have d5 : divOk 5 = true := by decide
  have mk : ∀ z : Int, mulOk z 69621 = true := fun z => by unfold mulOk; simp
  unfold G.F__law_take G.c__law_take
  by_cases hc : cur = 0
  · subst hc
    by_cases hi : i < cells.length
    · by_cases hs : (if cells[i] < 0 then -cells[i] else cells[i]) < 1000000000000000000
      · refine ⟨(if cells[i] < 0 then -cells[i] else cells[i]) % m, ⟨cells, i + 1, 0, seed⟩, (md _).1, (md _).2, ?_⟩
        simp [Rd.v, oIx, Vl.items, D.items, atD_nat, atD, ixN, oEq, oLt, oGt, oMod, oDiv, oAdd, oMul, oPow, oInt, oAbs, oLen, Vl.eq, D.eq, D.dep, Vl.bool, h, hd, hi, hs]
      · have hp : 0 < (if cells[i] < 0 then -cells[i] else cells[i]) := by omega
        refine ⟨(if cells[i] < 0 then -cells[i] else cells[i]) % m, ⟨cells, i + 1, (if cells[i] < 0 then -cells[i] else cells[i]) / m, seed⟩, (md _).1, (md _).2, ?_⟩
        simp [Rd.v, oIx, Vl.items, D.items, atD_nat, atD, ixN, oEq, oLt, oGt, oMod, oDiv, oAdd, oMul, oPow, oInt, oAbs, oLen, Vl.eq, D.eq, D.dep, Vl.bool, h, hd, hi, hs, hp]
    · refine ⟨(seed * 69621 + 7) % 2147483647 / 5 % m, ⟨cells, i, 0, (seed * 69621 + 7) % 2147483647⟩, (md _).1, (md _).2, ?_⟩
      simp [Rd.v, oIx, Vl.items, D.items, atD_nat, atD, ixN, oEq, oLt, oGt, oMod, oDiv, oAdd, oMul, oPow, oInt, oAbs, oLen, Vl.eq, D.eq, D.dep, Vl.bool, h, hd, hi, d5, mk]
  · by_cases hp : 0 < cur
    · refine ⟨cur % m, ⟨cells, i, cur / m, seed⟩, (md _).1, (md _).2, ?_⟩
      simp [Rd.v, oIx, Vl.items, D.items, atD_nat, atD, ixN, oEq, oLt, oGt, oMod, oDiv, oAdd, oMul, oPow, oInt, oAbs, oLen, Vl.eq, D.eq, D.dep, Vl.bool, h, hd, hc, hp]
    · refine ⟨(seed * 69621 + 7) % 2147483647 / 5 % m, ⟨cells, i, cur, (seed * 69621 + 7) % 2147483647⟩, (md _).1, (md _).2, ?_⟩
      simp [Rd.v, oIx, Vl.items, D.items, atD_nat, atD, ixN, oEq, oLt, oGt, oMod, oDiv, oAdd, oMul, oPow, oInt, oAbs, oLen, Vl.eq, D.eq, D.dep, Vl.bool, h, hd, hc, hp, d5, mk]
theorem begin_spec (ns : List Int) : ∃ seed, G.F__law_begin [.v (.lst (ns.map .int))] = .ok (Rd.v ⟨ns, 0, 0, seed⟩) [] := by
  have mk : ∀ z : Int, mulOk z 48271 = true := fun z => by unfold mulOk; simp
  have loop : ∀ (l : List Int) (x : Vl) (seed : Int) (c : Option Vl), ∃ seed' c', forGo (gN 2) (sSet 1 (e2 oMod (e2 oAdd (e2 oAdd (e2 oMul (eV 1) (eC (.int 48271))) (e2 oMod (e1 oInt (eP 2)) (eC (.int 2147483629)))) (eC (.int 11))) (eC (.int 2147483647)))) (l.map .int) [some x, some (.v (.int seed)), c] = .nxt [some x, some (.v (.int seed')), c'] := by
    intro l
    induction l with
    | nil => intro x seed c; exact ⟨seed, c, rfl⟩
    | cons a l ih =>
      intro x seed c
      obtain ⟨s', c', h⟩ := ih x ((seed * 48271 + a % 2147483629 + 11) % 2147483647) (some (.v (.int a)))
      refine ⟨s', c', ?_⟩
      rw [← h, List.map_cons]
      conv => lhs; unfold forGo
      simp [oMod, oAdd, oMul, oInt, mk]
  obtain ⟨s', c', h⟩ := loop ns (.v (.lst (ns.map .int))) 5 none
  refine ⟨s', ?_⟩
  unfold G.F__law_begin G.c__law_begin
  simp [Vl.items, D.items, h, oList, Rd.v]
theorem is_integer_ok (d : D) : G.F_is_integer [.v d] = .ok (.v (.bl (d.isA .tInt && !d.isA .tBool))) [] := by
  unfold G.F_is_integer G.c_is_integer
  cases h : d.isA .tInt <;> simp [h]
theorem is_integer_int (i : Int) : G.F_is_integer [.v (.int i)] = .ok (.v (.bl true)) [] := is_integer_ok _
/-- entries by places -/
def at2 (T : List (List Int)) (i j : Nat) : Int := (T.getD i []).getD j 0
structure IsTab (T : List (List Int)) : Prop where
  n1 : 1 ≤ T.length
  n8 : T.length ≤ 8
  sq : ∀ r ∈ T, r.length = T.length
  rg : ∀ r ∈ T, ∀ x ∈ r, 0 ≤ x ∧ x ≤ 1000
  dg : ∀ i, i < T.length → at2 T i i = 0
  sy : ∀ i j, i < T.length → j < T.length → at2 T i j = at2 T j i
end Fx
end

section
set_option linter.all false
set_option maxRecDepth 10000
namespace Fx
/-- a row of places -/
def oi (o : List Nat) : D := .tup (o.map fun (k : Nat) => D.int (k : Int))
@[simp] theorem oi_items (o : List Nat) : (oi o).items = some (o.map fun (k : Nat) => D.int (k : Int)) := rfl
@[simp] theorem oi_isA (o : List Nat) : (oi o).isA .tTuple = true := rfl
@[simp] theorem tuple_o (l : List D) : oTuple (.o l) = some (.v (.tup l)) := rfl
@[simp] theorem tuple_v (d : D) : oTuple (.v d) = d.items.map fun l => .v (.tup l) := rfl
def mv (T : List (List Int)) (o : List Nat) : List (List Int) := o.map fun i => o.map fun j => at2 T i j
/-- the number of a whole number -/
def D.nat : D → Nat
  | .int i => i.toNat
  | _ => 0
@[simp] theorem rdv_own (s : Rd) : s.v.own = true := rfl
end Fx
end

section
set_option linter.all false
set_option maxRecDepth 10000
namespace Fx
theorem compGoO1 {k : Nat} {x : M Vl} {e : En} (f : D → List D) : ∀ (l : List D) (acc : List (List D)),
    (∀ d ∈ l, x (e.set k (some (.v d))) = .ok (.o (f d)) (e.set k (some (.v d)))) → compGoO [k] (gN k) tYes x l acc (e.set k none) = .ok (acc ++ l.map f) (e.set k none)
  | [], acc, _ => by simp [compGoO]
  | d :: l, acc, hx => by
    have h1 := hx d (by simp)
    unfold compGoO
    simp only [s_gN, s_tYes, List.set_set, h1, hide]
    rw [compGoO1 f l _ fun d q => hx d (by simp [q])]
    simp
theorem eCompO1 {k : Nat} {it : M (List D)} {x : M Vl} {e e1 : En} {l : List D} (f : D → List D) (hit : it e = .ok l e1) (hl : l.length ≤ lim) (hk : e1[k]? = some none) (hx : ∀ d ∈ l, x (e1.set k (some (.v d))) = .ok (.o (f d)) (e1.set k (some (.v d)))) :
    eCompO [k] it (gN k) tYes x e = .ok (.oo (l.map f)) e1 := by
  have h := compGoO1 (k := k) (e := e1) f l [] hx
  unfold eCompO
  simp only [hit, Rs.then, hl, if_true, hide, h, unhide, List.nil_append, hk, List.set_set]
  rw [show keepD (some none) = none from rfl, set_none hk]
/-- a square of numbers, as it is made -/
structure Sq (n : Nat) (T : List (List Int)) : Prop where
  len : T.length = n
  row : ∀ i, i < n → (T.getD i []).length = n
def set2 (T : List (List Int)) (i j : Nat) (v : Int) : List (List Int) := T.set i ((T.getD i []).set j v)
theorem getD_set {α : Type} (l : List α) (i j : Nat) (v d : α) : (l.set i v).getD j d = if i = j ∧ j < l.length then v else l.getD j d := by
  unfold List.getD
  by_cases h : i = j
  · subst h
    by_cases h2 : i < l.length
    · simp [h2]
    · simp [h2]
  · simp [List.getElem?_set_ne h, h]
theorem at_set2 {n : Nat} {T : List (List Int)} (h : Sq n T) {i j : Nat} (hi : i < n) (hj : j < n) (v : Int) (a b : Nat) : at2 (set2 T i j v) a b = if a = i ∧ b = j then v else at2 T a b := by
  unfold at2 set2
  have hl := h.len
  have hr := h.row i hi
  rw [getD_set]
  by_cases ha : i = a
  · subst ha
    rw [if_pos ⟨rfl, by omega⟩, getD_set]
    by_cases hb : j = b
    · subst hb; rw [if_pos ⟨rfl, by omega⟩, if_pos ⟨rfl, rfl⟩]
    · rw [if_neg (fun z => hb z.1), if_neg (fun z => hb z.2.symm)]
  · rw [if_neg (fun z => ha z.1), if_neg (fun z => ha z.1.symm)]
theorem sq_set2 {n : Nat} {T : List (List Int)} (h : Sq n T) (i j : Nat) (v : Int) : Sq n (set2 T i j v) := by
  refine ⟨by unfold set2; rw [List.length_set]; exact h.len, fun a ha => ?_⟩
  unfold set2
  rw [getD_set]
  split
  · rw [List.length_set]
    rename_i q
    rw [q.1]
    exact h.row a ha
  · exact h.row a ha
/-- a table as it grows -/
structure TabI (n : Nat) (top : Int) (T : List (List Int)) : Prop where
  sq : Sq n T
  sy : ∀ a b, a < n → b < n → at2 T a b = at2 T b a
  rg : ∀ a b, a < n → b < n → 0 ≤ at2 T a b ∧ at2 T a b ≤ top
  dg : ∀ a, a < n → at2 T a a = 0
theorem tab_step {n : Nat} {top : Int} {T : List (List Int)} (h : TabI n top T) {i j : Nat} (hi : i < n) (hj : j < i) {v : Int} (h0 : 0 ≤ v) (h1 : v ≤ top) : TabI n top (set2 (set2 T i j v) j i v) := by
  have s1 := sq_set2 h.sq i j v
  have key : ∀ a b, at2 (set2 (set2 T i j v) j i v) a b = if (a = j ∧ b = i) ∨ (a = i ∧ b = j) then v else at2 T a b := fun a b => by
    rw [at_set2 s1 (by omega) hi, at_set2 h.sq hi (by omega)]
    by_cases q1 : a = j ∧ b = i
    · simp [q1]
    · by_cases q2 : a = i ∧ b = j
      · simp [q2]
      · simp [q1, q2]
  refine ⟨sq_set2 s1 j i v, fun a b ha hb => ?_, fun a b ha hb => ?_, fun a ha => ?_⟩
  · rw [key, key]
    by_cases q : (a = j ∧ b = i) ∨ (a = i ∧ b = j)
    · rw [if_pos q, if_pos (by omega)]
    · rw [if_neg q, if_neg (by omega)]; exact h.sy a b ha hb
  · rw [key]
    split
    · exact ⟨h0, h1⟩
    · exact h.rg a b ha hb
  · rw [key, if_neg (by omega)]; exact h.dg a ha
theorem TabI.tab {n : Nat} {top : Int} {T : List (List Int)} (h : TabI n top T) (h1 : 1 ≤ n) (h8 : n ≤ 8) (ht : top ≤ 1000) : IsTab T := by
  have hl := h.sq.len
  have row : ∀ r ∈ T, ∃ i, i < n ∧ T.getD i [] = r := fun r hr => by
    obtain ⟨i, hi, rfl⟩ := List.getElem_of_mem hr
    exact ⟨i, by omega, getD_of (List.getElem?_eq_getElem hi)⟩
  refine ⟨by omega, by omega, fun r hr => ?_, fun r hr x hx => ?_, fun i hi => h.dg i (by omega), fun i j hi hj => h.sy i j (by omega) (by omega)⟩
  · obtain ⟨i, hi, rfl⟩ := row r hr
    rw [hl]; exact h.sq.row i hi
  · obtain ⟨i, hi, rfl⟩ := row r hr
    obtain ⟨j, hj, rfl⟩ := List.getElem_of_mem hx
    have hj' : j < n := by rw [← h.sq.row i hi]; exact hj
    have := h.rg i j hi hj'
    unfold at2 at this
    rw [getD_of (List.getElem?_eq_getElem hj)] at this
    omega
theorem TabI.mono {n : Nat} {a b : Int} {T : List (List Int)} (h : TabI n a T) (hab : a ≤ b) : TabI n b T := ⟨h.sq, h.sy, fun i j hi hj => ⟨(h.rg i j hi hj).1, by have := (h.rg i j hi hj).2; omega⟩, h.dg⟩
theorem TabI.sqr {n : Nat} {a : Int} {T : List (List Int)} (h : TabI n a T) : ∀ r ∈ T, r.length = n := fun r hr => by
  obtain ⟨i, hi, rfl⟩ := List.getElem_of_mem hr
  have h2 := h.sq.len
  have := h.sq.row i (by omega)
  rwa [getD_of (List.getElem?_eq_getElem hi)] at this
theorem tab_step2 {n : Nat} {top : Int} {T : List (List Int)} (h : TabI n top T) {i j : Nat} (hi : i < n) (hj : j < n) {v : Int} (h0 : 0 ≤ v) (h1 : v ≤ top) (hd : i = j → v = 0) : TabI n top (set2 (set2 T i j v) j i v) := by
  have s1 := sq_set2 h.sq i j v
  have key : ∀ a b, at2 (set2 (set2 T i j v) j i v) a b = if (a = j ∧ b = i) ∨ (a = i ∧ b = j) then v else at2 T a b := fun a b => by
    rw [at_set2 s1 (by omega) hi, at_set2 h.sq hi (by omega)]
    by_cases q1 : a = j ∧ b = i
    · simp [q1]
    · by_cases q2 : a = i ∧ b = j
      · simp [q2]
      · simp [q1, q2]
  refine ⟨sq_set2 s1 j i v, fun a b ha hb => ?_, fun a b ha hb => ?_, fun a ha => ?_⟩
  · rw [key, key]
    by_cases q : (a = j ∧ b = i) ∨ (a = i ∧ b = j)
    · rw [if_pos q, if_pos (by omega)]
    · rw [if_neg q, if_neg (by omega)]; exact h.sy a b ha hb
  · rw [key]
    split
    · exact ⟨h0, h1⟩
    · exact h.rg a b ha hb
  · rw [key]
    split
    · exact hd (by omega)
    · exact h.dg a ha
theorem seq_nxt {a b : C} {e e' : En} (h : a e = .nxt e') : sSeq a b e = b e' := by
  unfold sSeq
  rw [h]
theorem run_of {n : Nat} {lent : List Nat} {b : C} {l : List Vl} {x : Vl} {e : En} {os : List Vl} (h : b (l.map some ++ List.replicate (n - l.length) none) = .ret x e) (ho : outs lent e = some os) : runDef n lent b l = .ok x os := by
  unfold runDef
  rw [h]
  simp only [ho]
end Fx
end

section
set_option linter.all false
set_option maxRecDepth 10000
namespace Fx
theorem in_oi (t : Nat) (row : List Nat) : inD (.int (t : Int)) (row.map fun (k : Nat) => D.int (k : Int)) = row.contains t := by
  unfold inD
  induction row with
  | nil => rfl
  | cons a r ih =>
    simp only [List.map_cons, List.any_cons, ih, List.contains_cons]
    congr 1
    simp only [D.eq]
    by_cases h : t = a
    · simp [h]
    · have : ¬ ((a : Int) = (t : Int)) := by omega
      simp [this, h]
@[simp] theorem notin_oi (t : Nat) (row : List Nat) : oNotIn (.v (.int (t : Int))) (.v (oi row)) = some (.v (.bl (!row.contains t))) := by
  unfold oNotIn
  simp [D.dep, in_oi]
@[simp] theorem in_oi' (t : Nat) (row : List Nat) : oIn (.v (.int (t : Int))) (.v (oi row)) = some (.v (.bl (row.contains t))) := by
  unfold oIn
  simp [D.dep, in_oi]
@[simp] theorem ix_oi (row : List Nat) (i : Nat) : oIx (.v (oi row)) (.v (.int (i : Int))) = (row[i]?).map fun x => .v (.int (x : Int)) := by
  rw [ix_v _ _ _ (oi_items row), atD_nat, List.getElem?_map]
  cases row[i]? <;> rfl
theorem add_oi (row : List Nat) (t : Nat) (h : row.length ≤ 1000) : oAdd (.v (oi row)) (.v (.tup [.int (t : Int)])) = some (.v (oi (row ++ [t]))) := by
  unfold oi oAdd
  dsimp only
  rw [if_pos (by simp [lim]; omega)]
  simp
def D.row : D → List Nat
  | .tup l => l.map D.nat
  | _ => []
@[simp] theorem row_oi (row : List Nat) : (oi row).row = row := by simp [oi, D.row, D.nat, Function.comp_def]
theorem any_rng (f : Nat → Bool) (k : Nat) : (((rng 0 k).map fun d => f d.nat).any id) = (List.range k).any f := by
  simp [rng, List.any_map, Function.comp_def, D.nat]
theorem at_ok {T : List (List Int)} (sq : ∀ r ∈ T, r.length = T.length) {i j : Nat} (hi : i < T.length) (hj : j < T.length) : ∃ r, T[i]? = some r ∧ r[j]? = some (at2 T i j) := by
  obtain ⟨r, h⟩ : ∃ r, T[i]? = some r := ⟨_, get_of hi []⟩
  have : r.length = T.length := sq _ (List.mem_of_getElem? h)
  exact ⟨r, h, by rw [get_of (by omega) 0]; unfold at2; rw [getD_of h]⟩
theorem rng_filter (P : Nat → Bool) (n : Nat) : (rng 0 n).filter (fun c => P c.nat) = ((List.range n).filter P).map fun (t : Nat) => D.int (t : Int) := by
  have : rng 0 n = (List.range n).map fun (t : Nat) => D.int (t : Int) := by simp [rng]
  rw [this, List.filter_map]
  rfl
theorem forGoR {g : D → En → Option En} {b : C} (I : Nat → En → Prop) (n : Nat) : ∀ (m k : Nat) (e : En), k + m = n → I k e → (∀ j e, j < n → I j e → ∃ e1 e2, g (.int (j : Int)) e = some e1 ∧ b e1 = .nxt e2 ∧ I (j + 1) e2) → ∃ e', forGo g b ((List.range' k m).map fun (t : Nat) => D.int (t : Int)) e = .nxt e' ∧ I n e'
  | 0, k, e, hk, hi, _ => ⟨e, rfl, by rw [← hk]; exact hi⟩
  | m + 1, k, e, hk, hi, h => by
    obtain ⟨e1, e2, h1, h2, h3⟩ := h k e (by omega) hi
    obtain ⟨e', h4, h5⟩ := forGoR I n m (k + 1) e2 (by omega) h3 h
    refine ⟨e', ?_, h5⟩
    rw [List.range'_succ, List.map_cons]
    conv => lhs; unfold forGo
    simp only [h1, h2]
    exact h4
theorem rng_range' (n : Nat) : rng 0 n = (List.range' 0 n).map fun (t : Nat) => D.int (t : Int) := by
  rw [← List.range_eq_range']
  simp [rng]
theorem forGoL {α : Type} {g : D → En → Option En} {b : C} (h : α → D) (I : List α → En → Prop) (N : Nat) : ∀ (l pre : List α) (e : En), pre.length + l.length = N → I pre e → (∀ pre a e, a ∈ l → pre.length < N → I pre e → ∃ e1 e2, g (h a) e = some e1 ∧ b e1 = .nxt e2 ∧ I (pre ++ [a]) e2) → ∃ e', forGo g b (l.map h) e = .nxt e' ∧ I (pre ++ l) e'
  | [], pre, e, _, hi, _ => ⟨e, rfl, by simpa using hi⟩
  | a :: l, pre, e, hN, hi, hh => by
    obtain ⟨e1, e2, h1, h2, h3⟩ := hh pre a e (by simp) (by rw [List.length_cons] at hN; omega) hi
    obtain ⟨e', h4, h5⟩ := forGoL h I N l (pre ++ [a]) e2 (by rw [List.length_append, List.length_singleton]; rw [List.length_cons] at hN; omega) h3 fun pre a e ha hp hi => hh pre a e (by simp [ha]) hp hi
    refine ⟨e', ?_, by simpa using h5⟩
    rw [List.map_cons]
    conv => lhs; unfold forGo
    simp only [h1, h2]
    exact h4
end Fx
end

section
set_option linter.all false
set_option maxRecDepth 10000
namespace Fx
theorem eqs_map {α : Type} [DecidableEq α] (h : α → D) (hh : ∀ a b, D.eq (h a) (h b) = decide (a = b)) : ∀ r s : List α, D.eqs (r.map h) (s.map h) = decide (r = s)
  | [], [] => by simp [D.eqs]
  | [], _ :: _ => by simp [D.eqs]
  | _ :: _, [] => by simp [D.eqs]
  | a :: r, b :: s => by
    simp only [List.map_cons, D.eqs, hh, eqs_map h hh r s]
    by_cases h1 : a = b <;> by_cases h2 : r = s <;> simp [h1, h2]
theorem eq_ti (r s : List Int) : D.eq (ti r) (ti s) = decide (r = s) := by
  unfold ti
  simp only [D.eq]
  exact eqs_map _ (fun a b => by simp [D.eq]) r s
theorem eq_tt (A B : List (List Int)) : D.eq (tt A) (tt B) = decide (A = B) := by
  unfold tt
  simp only [D.eq]
  exact eqs_map _ eq_ti A B
theorem eq_oi (r s : List Nat) : D.eq (oi r) (oi s) = decide (r = s) := by
  unfold oi
  simp only [D.eq]
  exact eqs_map _ (fun a b => by
    simp only [D.eq]
    by_cases h : a = b
    · simp [h]
    · have : ¬ (a : Int) = (b : Int) := by omega
      simp [h, this]) r s
theorem dep_ints (r : List Int) : D.deps (r.map .int) = 0 := by
  induction r with
  | nil => rfl
  | cons a r ih => simp [D.deps, D.dep, ih]
theorem dep_ti (r : List Int) : (ti r).dep = 1 := by unfold ti; simp [D.dep, dep_ints]
theorem dep_tt (A : List (List Int)) : (tt A).dep ≤ 2 := by
  unfold tt
  have : D.deps (A.map ti) ≤ 1 := by
    induction A with
    | nil => simp [D.deps]
    | cons a A ih => simp only [List.map_cons, D.deps, dep_ti]; omega
  simp only [D.dep]
  omega
theorem dep_oi (r : List Nat) : (oi r).dep = 1 := by
  unfold oi
  have : D.deps (r.map fun (k : Nat) => D.int (k : Int)) = 0 := by
    induction r with
    | nil => rfl
    | cons a r ih => simp [D.deps, D.dep, ih]
  simp [D.dep, this]
@[simp] theorem oEq_tt (A B : List (List Int)) : oEq (.v (tt A)) (.v (tt B)) = some (.v (.bl (decide (A = B)))) := by
  have := dep_tt A
  unfold oEq Vl.eq
  simp only [s_vd]
  rw [if_pos (by omega), eq_tt]
  rfl
@[simp] theorem oNe_tt (A B : List (List Int)) : oNe (.v (tt A)) (.v (tt B)) = some (.v (.bl (!decide (A = B)))) := by
  have := dep_tt A
  unfold oNe Vl.eq
  simp only [s_vd]
  rw [if_pos (by omega), eq_tt]
  rfl
theorem oEq_sm (x y : D) (h : y.dep ≤ 64) : oEq (.v x) (.v y) = some (.v (.bl (D.eq x y))) := by
  unfold oEq Vl.eq
  simp only [s_vd]
  rw [if_pos (by omega)]
  rfl
theorem oNe_sm (x y : D) (h : y.dep ≤ 64) : oNe (.v x) (.v y) = some (.v (.bl (!D.eq x y))) := by
  unfold oNe Vl.eq
  simp only [s_vd]
  rw [if_pos (by omega)]
  rfl
@[simp] theorem oEq_str (x : D) (s : String) : oEq (.v x) (.v (.str s)) = some (.v (.bl (D.eq x (.str s)))) := oEq_sm _ _ (by simp [D.dep])
@[simp] theorem oNe_str (x : D) (s : String) : oNe (.v x) (.v (.str s)) = some (.v (.bl (!D.eq x (.str s)))) := oNe_sm _ _ (by simp [D.dep])
@[simp] theorem oEq_str1 (x : D) (s : String) : oEq (.v x) (.v (.tup [.str s])) = some (.v (.bl (D.eq x (.tup [.str s])))) := oEq_sm _ _ (by simp [D.dep, D.deps])
@[simp] theorem oNe_str1 (x : D) (s : String) : oNe (.v x) (.v (.tup [.str s])) = some (.v (.bl (!D.eq x (.tup [.str s])))) := oNe_sm _ _ (by simp [D.dep, D.deps])
/-- whether it is that word -/
def isStr (s : String) : D → Bool
  | .str t => decide (t = s)
  | _ => false
theorem eq_str (x : D) (s : String) : D.eq x (.str s) = isStr s x := by cases x <;> simp [D.eq, isStr]
def isStr1 (s : String) : D → Bool
  | .tup [a] => isStr s a
  | _ => false
theorem eq_str1 (x : D) (s : String) : D.eq x (.tup [.str s]) = isStr1 s x := by
  cases x with
  | tup l => match l with
    | [] => simp [D.eq, D.eqs, isStr1]
    | [a] => simp [D.eq, D.eqs, isStr1, eq_str]
    | a :: b :: r => simp [D.eq, D.eqs, isStr1]
  | _ => simp [D.eq, isStr1]
def isI : D → Bool
  | .int _ => true
  | _ => false
def D.iv : D → Int
  | .int i => i
  | _ => 0
theorem isI_isA (d : D) : (d.isA .tInt && !d.isA .tBool) = isI d := by cases d <;> rfl
theorem ints_of : ∀ (l : List D), l.all isI = true → D.ints l = some (l.map D.iv)
  | [], _ => rfl
  | a :: l, h => by
    simp only [List.all_cons, Bool.and_eq_true] at h
    obtain ⟨h1, h2⟩ := h
    cases a with
    | int i => simp [D.ints, ints_of l h2, D.iv]
    | _ => cases h1
theorem isStr_eq {s : String} {d : D} (h : isStr s d = true) : d = .str s := by
  cases d <;> simp [isStr] at h
  rw [h]
theorem isStr1_eq {s : String} {d : D} (h : isStr1 s d = true) : d = .tup [.str s] := by
  cases d with
  | tup l => match l, h with
    | [a], h => rw [isStr_eq h]
  | _ => simp [isStr1] at h
theorem bools_not (f : D → Bool) (l : List D) : oAny (.o (l.map fun d => .bl (!f d))) = some (.v (.bl (!l.all f))) := by
  rw [any_o]
  congr 3
  rw [List.any_map, List.all_eq_not_any_not]
  simp [Function.comp_def]
end Fx
end

section
set_option linter.all false
set_option maxRecDepth 10000
namespace Fx
mutual
/-- the longest tuple in it -/
def D.wid : D → Nat
  | .tup l => max l.length (D.wids l)
  | .lst l => max l.length (D.wids l)
  | _ => 0
def D.wids : List D → Nat
  | [] => 0
  | a :: l => max (D.wid a) (D.wids l)
end
/-- no deeper than k, no wider than w -/
def Bd (k w : Nat) (d : D) : Prop := d.dep ≤ k ∧ d.wid ≤ w
theorem deps_le (k : Nat) : ∀ l : List D, D.deps l ≤ k ↔ ∀ x ∈ l, x.dep ≤ k
  | [] => by simp [D.deps]
  | a :: l => by simp only [D.deps, List.forall_mem_cons, ← deps_le k l]; omega
theorem wids_le (k : Nat) : ∀ l : List D, D.wids l ≤ k ↔ ∀ x ∈ l, x.wid ≤ k
  | [] => by simp [D.wids]
  | a :: l => by simp only [D.wids, List.forall_mem_cons, ← wids_le k l]; omega
theorem bd_tup {k w : Nat} {l : List D} : Bd (k + 1) w (.tup l) ↔ l.length ≤ w ∧ ∀ x ∈ l, Bd k w x := by
  unfold Bd
  simp only [D.dep, D.wid, forall_and]
  rw [← deps_le, ← wids_le]
  omega
theorem bd_zero {w : Nat} {l : List D} : ¬ Bd 0 w (.tup l) := by
  unfold Bd
  simp [D.dep]
theorem Bd.mono {k k' w w' : Nat} {d : D} (h : Bd k w d) (hk : k ≤ k') (hw : w ≤ w') : Bd k' w' d := ⟨by have := h.1; omega, by have := h.2; omega⟩
theorem bd_int {k w : Nat} (i : Int) : Bd k w (.int i) := ⟨by simp [D.dep], by simp [D.wid]⟩
theorem bd_str {k w : Nat} (i : String) : Bd k w (.str i) := ⟨by simp [D.dep], by simp [D.wid]⟩
theorem bd_bl {k w : Nat} (i : Bool) : Bd k w (.bl i) := ⟨by simp [D.dep], by simp [D.wid]⟩
theorem bd_non {k w : Nat} : Bd k w .non := ⟨by simp [D.dep], by simp [D.wid]⟩
theorem bd_emp {k w : Nat} : Bd (k + 1) w (.tup []) := bd_tup.mpr ⟨by simp, by simp⟩
theorem bd_one {k w : Nat} (s : String) (h : 1 ≤ w) : Bd (k + 1) w (.tup [.str s]) := bd_tup.mpr ⟨by simpa using h, by simp [bd_str]⟩
theorem cut_to {α : Type} (l : List α) (k : Nat) (h : k ≤ l.length) : cutL l none (some (k : Int)) = l.take k := by
  unfold cutL sIx
  have : ¬ ((k : Int) < 0) := by omega
  simp [this, h, Nat.min_eq_left h]
theorem cut_from {α : Type} (l : List α) (k : Nat) (h : k ≤ l.length) : cutL l (some (k : Int)) none = l.drop k := by
  unfold cutL sIx
  have : ¬ ((k : Int) < 0) := by omega
  simp [this, h, Nat.min_eq_left h]
  exact List.take_of_length_le (by simp)
def tail1 : List D := [.non, .int 0, .tup [], .str "gen", .str "", .bl true, .str "in", .tup [.str "one"]]
@[simp] theorem vint_v (i : Int) : (Vl.v (.int i)).int = some i := rfl
theorem oCut_to (l : List D) (k : Nat) (h : k ≤ l.length) : oCut (.v (.tup l)) none (some (k : Int)) = some (.v (.tup (l.take k))) := by simp [oCut, cut_to l k h]
theorem oCut_from (l : List D) (k : Nat) (h : k ≤ l.length) : oCut (.v (.tup l)) (some (k : Int)) none = some (.v (.tup (l.drop k))) := by simp [oCut, cut_from l k h]
theorem oAdd_tup (l m : List D) (h : l.length + m.length ≤ lim) : oAdd (.v (.tup l)) (.v (.tup m)) = some (.v (.tup (l ++ m))) := by simp [oAdd, h]
theorem ix_tup (l : List D) (k : Nat) (h : k < l.length) : oIx (.v (.tup l)) (.v (.int (k : Int))) = some (.v l[k]) := by
  rw [ix_v _ l _ rfl, atD_nat, List.getElem?_eq_getElem h]
  rfl
theorem oMul_zero (r : Nat) (h : r ≤ 1000) : oMul (.v (.tup [.int 0])) (.v (.int (r : Int))) = some (.v (.tup (List.replicate r (.int 0)))) := by
  unfold oMul
  have : (List.replicate (Int.toNat (r : Int)) [D.int 0]).flatten = List.replicate r (.int 0) := by
    simp
  simp
  omega
end Fx
end

section
set_option linter.all false
set_option maxRecDepth 10000
/-! Gz: loops, general. -/
namespace Fx
theorem forF {α β : Type} {g : D → En → Option En} {b : C} (h : α → D) (step : β → α → β) (I : β → En → Prop) : ∀ (l : List α) (acc : β) (e : En), I acc e →
    (∀ a ∈ l, ∀ acc e, I acc e → ∃ e1 e2, g (h a) e = some e1 ∧ b e1 = .nxt e2 ∧ I (step acc a) e2) → ∃ e', forGo g b (l.map h) e = .nxt e' ∧ I (l.foldl step acc) e'
  | [], acc, e, hi, _ => ⟨e, rfl, hi⟩
  | a :: l, acc, e, hi, hh => by
    obtain ⟨e1, e2, h1, h2, h3⟩ := hh a (by simp) acc e hi
    obtain ⟨e', h4, h5⟩ := forF h step I l (step acc a) e2 h3 fun a ha => hh a (by simp [ha])
    refine ⟨e', ?_, h5⟩
    rw [List.map_cons]
    conv => lhs; unfold forGo
    simp only [h1, h2]
    exact h4
theorem whileS {α : Type} {t : M Bool} {b : C} (R : α → En → Prop) (μ : α → Nat) (Q : En → Prop)
    (h : ∀ a e, R a e → (∃ e', t e = .ok false e' ∧ Q e') ∨ (∃ a' e' e'', t e = .ok true e' ∧ b e' = .nxt e'' ∧ R a' e'' ∧ μ a' < μ a)) : ∀ (a : α) (e : En), R a e → ∃ e', sWhile t b e = .nxt e' ∧ Q e' := by
  have key : ∀ (m : Nat) (a : α) (e : En), μ a ≤ m → R a e → ∃ f e', whileGo t b f e = some (.nxt e') ∧ Q e' := by
    intro m
    induction m with
    | zero =>
      intro a e hm hr
      rcases h a e hr with ⟨e', h1, h2⟩ | ⟨a', e', e'', h1, h2, h3, h4⟩
      · exact ⟨1, e', by unfold whileGo; simp only [h1], h2⟩
      · omega
    | succ m ih =>
      intro a e hm hr
      rcases h a e hr with ⟨e', h1, h2⟩ | ⟨a', e', e'', h1, h2, h3, h4⟩
      · exact ⟨1, e', by unfold whileGo; simp only [h1], h2⟩
      · obtain ⟨f, e3, h5, h6⟩ := ih a' e'' (by omega) h3
        exact ⟨f + 1, e3, by unfold whileGo; simp only [h1, h2]; exact h5, h6⟩
  intro a e hr
  obtain ⟨f, e', h1, h2⟩ := key (μ a) a e (Nat.le_refl _) hr
  exact ⟨e', sWhile_eq h1, h2⟩
/-- a loop that may end by a return -/
theorem forFind {α : Type} {g : D → En → Option En} {b : C} (h : α → D) (I : En → Prop) (P : α → Option Vl) : ∀ (l : List α) (e : En), I e →
    (∀ a ∈ l, ∀ e, I e → ∃ e1, g (h a) e = some e1 ∧ match P a with
      | none => ∃ e2, b e1 = .nxt e2 ∧ I e2
      | some v => ∃ e2, b e1 = .ret v e2) → match l.findSome? P with
      | none => ∃ e', forGo g b (l.map h) e = .nxt e' ∧ I e'
      | some v => ∃ e', forGo g b (l.map h) e = .ret v e'
  | [], e, hi, _ => ⟨e, rfl, hi⟩
  | a :: l, e, hi, hh => by
    obtain ⟨e1, h1, h2⟩ := hh a (by simp) e hi
    rw [List.findSome?_cons]
    cases hP : P a with
    | none =>
      rw [hP] at h2
      obtain ⟨e2, h3, h4⟩ := h2
      have := forFind h I P l e2 h4 fun x hx => hh x (by simp [hx])
      simp only
      split
      · rename_i q
        rw [q] at this
        obtain ⟨e', h5, h6⟩ := this
        exact ⟨e', by rw [List.map_cons]; conv => lhs; unfold forGo
                      simp only [h1, h3]; exact h5, h6⟩
      · rename_i q
        rw [q] at this
        obtain ⟨e', h5⟩ := this
        exact ⟨e', by rw [List.map_cons]; conv => lhs; unfold forGo
                      simp only [h1, h3]; exact h5⟩
    | some v =>
      rw [hP] at h2
      obtain ⟨e2, h3⟩ := h2
      exact ⟨e2, by rw [List.map_cons]; conv => lhs; unfold forGo
                    simp only [h1, h3]⟩
/-! ### comprehensions over encoded lists -/
theorem compGo_ok {α : Type} {vs : List Nat} {g : D → En → Option En} {t : M Bool} {x : M Vl} {eh : En} (h : α → D) (P : α → Bool) (f : α → D) (ea : α → En) : ∀ (L : List α) (acc : List D),
    (∀ a ∈ L, g (h a) eh = some (ea a) ∧ t (ea a) = .ok (P a) (ea a) ∧ (P a = true → ∃ y, x (ea a) = .ok y (ea a) ∧ y.d = some (f a)) ∧ hide (ea a) vs = eh) →
    compGo vs g t x (L.map h) acc eh = .ok (acc ++ (L.filter P).map f) eh
  | [], acc, _ => by simp [compGo]
  | a :: L, acc, hh => by
    obtain ⟨h1, h2, h3, h4⟩ := hh a (by simp)
    rw [List.map_cons]
    unfold compGo
    simp only [h1, h2]
    cases hp : P a with
    | false =>
      simp only [h4]
      rw [compGo_ok h P f ea L acc (fun b hb => hh b (by simp [hb]))]
      simp [hp]
    | true =>
      obtain ⟨y, h5, h6⟩ := h3 hp
      simp only [h5, h6, h4]
      rw [compGo_ok h P f ea L _ (fun b hb => hh b (by simp [hb]))]
      simp [hp]
/-- a comprehension of one clause; eh: what the names hold while it runs -/
theorem comp1 {α : Type} {vs : List Nat} {it : M (List D)} {g : D → En → Option En} {t : M Bool} {x : M Vl} {e e1 : En} (L : List α) (h : α → D) (P : α → Bool) (f : α → D) (eh : En) (ea : α → En)
    (hit : it e = .ok (L.map h) e1) (hl : L.length ≤ lim) (hh : hide e1 vs = eh) (hu : unhide e1 eh vs = e1)
    (hb : ∀ a ∈ L, g (h a) eh = some (ea a) ∧ t (ea a) = .ok (P a) (ea a) ∧ (P a = true → ∃ y, x (ea a) = .ok y (ea a) ∧ y.d = some (f a)) ∧ hide (ea a) vs = eh) :
    eComp vs it g t x e = .ok (.o ((L.filter P).map f)) e1 := by
  have hc := compGo_ok h P f ea L [] hb
  unfold eComp
  simp only [hit, Rs.then, List.length_map, hl, if_true, hh, hc, List.nil_append, hu]
/-- without a test -/
theorem comp0 {α : Type} {vs : List Nat} {it : M (List D)} {g : D → En → Option En} {x : M Vl} {e e1 : En} (L : List α) (h : α → D) (f : α → D) (eh : En) (ea : α → En)
    (hit : it e = .ok (L.map h) e1) (hl : L.length ≤ lim) (hh : hide e1 vs = eh) (hu : unhide e1 eh vs = e1)
    (hb : ∀ a ∈ L, g (h a) eh = some (ea a) ∧ (∃ y, x (ea a) = .ok y (ea a) ∧ y.d = some (f a)) ∧ hide (ea a) vs = eh) :
    eComp vs it g tYes x e = .ok (.o (L.map f)) e1 := by
  have := comp1 (t := tYes) L h (fun _ => true) f eh ea hit hl hh hu fun a ha => ⟨(hb a ha).1, rfl, fun _ => (hb a ha).2.1, (hb a ha).2.2⟩
  rw [List.filter_eq_self.mpr (by simp)] at this
  exact this
/-- rows of one's own -/
theorem compGoO_ok {α : Type} {vs : List Nat} {g : D → En → Option En} {x : M Vl} {eh : En} (h : α → D) (f : α → List D) (ea : α → En) : ∀ (L : List α) (acc : List (List D)),
    (∀ a ∈ L, g (h a) eh = some (ea a) ∧ x (ea a) = .ok (.o (f a)) (ea a) ∧ hide (ea a) vs = eh) →
    compGoO vs g tYes x (L.map h) acc eh = .ok (acc ++ L.map f) eh
  | [], acc, _ => by simp [compGoO]
  | a :: L, acc, hh => by
    obtain ⟨h1, h2, h3⟩ := hh a (by simp)
    rw [List.map_cons]
    unfold compGoO
    simp only [h1, s_tYes, h2, h3]
    rw [compGoO_ok h f ea L _ (fun b hb => hh b (by simp [hb]))]
    simp
theorem compO {α : Type} {vs : List Nat} {it : M (List D)} {g : D → En → Option En} {x : M Vl} {e e1 : En} (L : List α) (h : α → D) (f : α → List D) (eh : En) (ea : α → En)
    (hit : it e = .ok (L.map h) e1) (hl : L.length ≤ lim) (hh : hide e1 vs = eh) (hu : unhide e1 eh vs = e1)
    (hb : ∀ a ∈ L, g (h a) eh = some (ea a) ∧ x (ea a) = .ok (.o (f a)) (ea a) ∧ hide (ea a) vs = eh) :
    eCompO vs it g tYes x e = .ok (.oo (L.map f)) e1 := by
  have hc := compGoO_ok h f ea L [] hb
  unfold eCompO
  simp only [hit, Rs.then, List.length_map, hl, if_true, hh, hc, List.nil_append, hu]
/-- two clauses -/
theorem comp2_ok {α β : Type} {vs vs1 : List Nat} {g g1 : D → En → Option En} {t t1 : M Bool} {it1 : M (List D)} {x : M Vl} {eh : En} (h : α → D) (P : α → Bool) (L1 : α → List β) (h1 : α → β → D) (P1 : α → β → Bool) (f : α → β → D) (ea ei : α → En) (eb : α → β → En) (m : Nat) :
    ∀ (L : List α) (acc : List D), acc.length + L.length * m ≤ lim →
    (∀ a ∈ L, g (h a) eh = some (ea a) ∧ t (ea a) = .ok (P a) (ea a) ∧ hide (ea a) vs = eh ∧ (P a = true → it1 (ea a) = .ok ((L1 a).map (h1 a)) (ea a) ∧ (L1 a).length ≤ m ∧ hide (ea a) vs1 = ei a ∧ hide (ei a) vs = eh ∧
      ∀ b ∈ L1 a, g1 (h1 a b) (ei a) = some (eb a b) ∧ t1 (eb a b) = .ok (P1 a b) (eb a b) ∧ (P1 a b = true → ∃ y, x (eb a b) = .ok y (eb a b) ∧ y.d = some (f a b)) ∧ hide (eb a b) vs1 = ei a)) →
    compGo2 vs vs1 g t it1 g1 t1 x (L.map h) acc eh = .ok (acc ++ (L.filter P).flatMap fun a => ((L1 a).filter (P1 a)).map (f a)) eh
  | [], acc, _, _ => by simp [compGo2]
  | a :: L, acc, hb, hh => by
    obtain ⟨q1, q2, q3, q4⟩ := hh a (by simp)
    rw [List.length_cons, Nat.add_mul, Nat.one_mul] at hb
    rw [List.map_cons]
    unfold compGo2
    simp only [q1, q2]
    cases hp : P a with
    | false =>
      simp only [q3]
      rw [comp2_ok h P L1 h1 P1 f ea ei eb m L acc (by omega) (fun b hb => hh b (by simp [hb]))]
      simp [hp]
    | true =>
      obtain ⟨r1, r2, r3, r4, r5⟩ := q4 hp
      have hz : acc.length + ((L1 a).map (h1 a)).length ≤ lim := by rw [List.length_map]; omega
      have hc := compGo_ok (t := t1) (x := x) (h1 a) (P1 a) (f a) (eb a) (L1 a) acc r5
      simp only [r1, hz, if_true, r3, hc, r4]
      have hl : (((L1 a).filter (P1 a)).map (f a)).length ≤ m := by
        rw [List.length_map]
        exact Nat.le_trans (List.length_filter_le _ _) r2
      rw [comp2_ok h P L1 h1 P1 f ea ei eb m L _ (by rw [List.length_append]; omega) (fun b hb => hh b (by simp [hb]))]
      simp [hp]
theorem comp2 {α β : Type} {vs vs1 : List Nat} {it : M (List D)} {g g1 : D → En → Option En} {t t1 : M Bool} {it1 : M (List D)} {x : M Vl} {e e1 : En} (L : List α) (h : α → D) (P : α → Bool) (L1 : α → List β) (h1 : α → β → D) (P1 : α → β → Bool) (f : α → β → D) (eh : En) (ea ei : α → En) (eb : α → β → En) (m : Nat)
    (hit : it e = .ok (L.map h) e1) (hl : L.length * m ≤ lim) (hh : hide e1 vs = eh) (hu : unhide e1 eh vs = e1)
    (hb : ∀ a ∈ L, g (h a) eh = some (ea a) ∧ t (ea a) = .ok (P a) (ea a) ∧ hide (ea a) vs = eh ∧ (P a = true → it1 (ea a) = .ok ((L1 a).map (h1 a)) (ea a) ∧ (L1 a).length ≤ m ∧ hide (ea a) vs1 = ei a ∧ hide (ei a) vs = eh ∧
      ∀ b ∈ L1 a, g1 (h1 a b) (ei a) = some (eb a b) ∧ t1 (eb a b) = .ok (P1 a b) (eb a b) ∧ (P1 a b = true → ∃ y, x (eb a b) = .ok y (eb a b) ∧ y.d = some (f a b)) ∧ hide (eb a b) vs1 = ei a)) :
    eComp2 vs vs1 it g t it1 g1 t1 x e = .ok (.o ((L.filter P).flatMap fun a => ((L1 a).filter (P1 a)).map (f a))) e1 := by
  have hc := comp2_ok h P L1 h1 P1 f ea ei eb m L [] (by simpa using hl) hb
  unfold eComp2
  simp only [hit, Rs.then, hh, hc, List.nil_append, hu]
/-! ### any and all -/
theorem bools_of {α : Type} (f : α → Bool) : ∀ l : List α, D.bools (l.map fun a => .bl (f a)) = some (l.map f)
  | [] => rfl
  | a :: l => by simp [D.bools, bools_of f l]
theorem any_of {α : Type} (f : α → Bool) (l : List α) : oAny (.o (l.map fun a => .bl (f a))) = some (.v (.bl (l.any f))) := by
  simp only [oAny, o_items, Option.bind_some, bools_of, Option.map_some, List.any_map]
  rfl
theorem all_of {α : Type} (f : α → Bool) (l : List α) : oAll (.o (l.map fun a => .bl (f a))) = some (.v (.bl (l.all f))) := by
  simp only [oAll, o_items, Option.bind_some, bools_of, Option.map_some, List.all_map]
  rfl
theorem any_ff {α : Type} (l : List α) : oAny (.o (l.map fun _ => D.bl false)) = some (.v (.bl false)) := by
  rw [any_of (fun _ => false)]
  simp
theorem all_tt {α : Type} (l : List α) : oAll (.o (l.map fun _ => D.bl true)) = some (.v (.bl true)) := by
  rw [all_of (fun _ => true)]
  simp
/-! ### comprehensions that change other names -/
theorem compGoS {α : Type} {vs : List Nat} {g : D → En → Option En} {t : M Bool} {x : M Vl} (h : α → D) (f : α → D) (I : En → Prop) : ∀ (L : List α) (acc : List D) (e : En), I e →
    (∀ a ∈ L, ∀ e, I e → ∃ ea b e2, g (h a) e = some ea ∧ t ea = .ok b e2 ∧ (b = true → ∃ y e3, x e2 = .ok y e3 ∧ y.d = some (f a) ∧ I (hide e3 vs)) ∧ (b = false → I (hide e2 vs))) →
    ∃ (R : List α) (e' : En), R.Sublist L ∧ compGo vs g t x (L.map h) acc e = .ok (acc ++ R.map f) e' ∧ I e'
  | [], acc, e, hi, _ => ⟨[], e, .slnil, by simp [compGo], hi⟩
  | a :: L, acc, e, hi, hh => by
    obtain ⟨ea, b, e2, h1, h2, h3, h4⟩ := hh a (by simp) e hi
    rw [List.map_cons]
    cases b with
    | false =>
      obtain ⟨R, e', r1, r2, r3⟩ := compGoS h f I L acc _ (h4 rfl) fun b hb => hh b (by simp [hb])
      refine ⟨R, e', r1.cons _, ?_, r3⟩
      unfold compGo
      simp only [h1, h2]
      exact r2
    | true =>
      obtain ⟨y, e3, q1, q2, q3⟩ := h3 rfl
      obtain ⟨R, e', r1, r2, r3⟩ := compGoS h f I L (acc ++ [f a]) _ q3 fun b hb => hh b (by simp [hb])
      refine ⟨a :: R, e', r1.cons₂ _, ?_, r3⟩
      unfold compGo
      simp only [h1, h2, q1, q2]
      rw [r2]
      simp
theorem compS {α : Type} {vs : List Nat} {it : M (List D)} {g : D → En → Option En} {t : M Bool} {x : M Vl} {e e1 : En} (L : List α) (h : α → D) (f : α → D) (I : En → Prop) (hit : it e = .ok (L.map h) e1) (hl : L.length ≤ lim) (h0 : I (hide e1 vs))
    (hh : ∀ a ∈ L, ∀ e, I e → ∃ ea b e2, g (h a) e = some ea ∧ t ea = .ok b e2 ∧ (b = true → ∃ y e3, x e2 = .ok y e3 ∧ y.d = some (f a) ∧ I (hide e3 vs)) ∧ (b = false → I (hide e2 vs))) :
    ∃ (R : List α) (e2 : En), R.Sublist L ∧ eComp vs it g t x e = .ok (.o (R.map f)) (unhide e1 e2 vs) ∧ I e2 := by
  obtain ⟨R, e2, h1, h2, h3⟩ := compGoS (t := t) (x := x) h f I L [] _ h0 hh
  refine ⟨R, e2, h1, ?_, h3⟩
  unfold eComp
  simp only [hit, Rs.then, List.length_map, hl, if_true, h2, List.nil_append]
theorem compGoN {α : Type} {vs : List Nat} {g : D → En → Option En} {x : M Vl} (h : α → D) (I : List D → En → Prop) : ∀ (L : List α) (acc : List D) (e : En), I acc e →
    (∀ a ∈ L, ∀ acc e, I acc e → ∃ ea y z e3, g (h a) e = some ea ∧ x ea = .ok y e3 ∧ y.d = some z ∧ I (acc ++ [z]) (hide e3 vs)) →
    ∃ (R : List D) (e' : En), R.length = L.length ∧ compGo vs g tYes x (L.map h) acc e = .ok (acc ++ R) e' ∧ I (acc ++ R) e'
  | [], acc, e, hi, _ => ⟨[], e, rfl, by simp [compGo], by simpa using hi⟩
  | a :: L, acc, e, hi, hh => by
    obtain ⟨ea, y, z, e3, h1, h2, h3, h4⟩ := hh a (by simp) acc e hi
    obtain ⟨R, e', r1, r2, r3⟩ := compGoN h I L (acc ++ [z]) _ h4 fun b hb => hh b (by simp [hb])
    refine ⟨z :: R, e', by simp [r1], ?_, by simpa using r3⟩
    rw [List.map_cons]
    unfold compGo
    simp only [h1, s_tYes, h2, h3]
    rw [r2]
    simp
/-- items that are drawn -/
theorem compN {α : Type} {vs : List Nat} {it : M (List D)} {g : D → En → Option En} {x : M Vl} {e e1 : En} (L : List α) (h : α → D) (I : List D → En → Prop) (hit : it e = .ok (L.map h) e1) (hl : L.length ≤ lim) (h0 : I [] (hide e1 vs))
    (hh : ∀ a ∈ L, ∀ acc e, I acc e → ∃ ea y z e3, g (h a) e = some ea ∧ x ea = .ok y e3 ∧ y.d = some z ∧ I (acc ++ [z]) (hide e3 vs)) :
    ∃ (R : List D) (e2 : En), R.length = L.length ∧ eComp vs it g tYes x e = .ok (.o R) (unhide e1 e2 vs) ∧ I R e2 := by
  obtain ⟨R, e2, h1, h2, h3⟩ := compGoN (x := x) h I L [] _ h0 hh
  refine ⟨R, e2, h1, ?_, by simpa using h3⟩
  unfold eComp
  simp only [hit, Rs.then, List.length_map, hl, if_true, h2, List.nil_append]
/-! ### what is walked -/
def nD (i : Nat) : D := .int (i : Int)
theorem rng_nat (n : Nat) : rng 0 n = (List.range n).map nD := by
  unfold rng nD
  refine List.map_congr_left fun i _ => ?_
  congr 1
  omega
theorem rng_nat2 (a n : Nat) : rng (a : Int) n = (List.range' a n).map nD := by
  unfold rng
  rw [List.range'_eq_map_range, List.map_map]
  refine List.map_congr_left fun k _ => ?_
  show D.int ((a : Int) + (k : Int)) = D.int ((a + k : Nat) : Int)
  congr 1
theorem r1_nat {a : M Vl} {e e' : En} {n : Nat} (h : a e = .ok (.v (.int (n : Int))) e') (hs : n ≤ 1000000) : iR1 a e = .ok ((List.range n).map nD) e' := by rw [iR1_nat h hs, rng_nat]
theorem r2_nat {a b : M Vl} {e e' e2 : En} {i n : Nat} (h : a e = .ok (.v (.int (i : Int))) e') (h2 : b e' = .ok (.v (.int (n : Int))) e2) (hi : i ≤ 1000000) (hn : n ≤ 1000000) : iR2 a b e = .ok ((List.range' i (n - i)).map nD) e2 := by
  unfold iR2
  rw [h]
  simp only [Rs.then]
  rw [h2]
  have e1 : ((n : Int) - (i : Int)).toNat = n - i := by omega
  simp only [small_nat hi, small_nat hn, Bool.and_self, if_true, e1, rng_nat2]
/-! ### loops by what is done -/
theorem forP {α : Type} {g : D → En → Option En} {b : C} (h : α → D) (I : List α → En → Prop) (L : List α) {e : En} (h0 : I [] e)
    (hh : ∀ pre a post e, L = pre ++ a :: post → I pre e → ∃ e1 e2, g (h a) e = some e1 ∧ b e1 = .nxt e2 ∧ I (pre ++ [a]) e2) : ∃ e', forGo g b (L.map h) e = .nxt e' ∧ I L e' := by
  have key : ∀ (l pre : List α) (e : En), L = pre ++ l → I pre e → ∃ e', forGo g b (l.map h) e = .nxt e' ∧ I L e' := by
    intro l
    induction l with
    | nil =>
      intro pre e hL hi
      rw [List.append_nil] at hL
      subst hL
      exact ⟨e, rfl, hi⟩
    | cons a l ih =>
      intro pre e hL hi
      obtain ⟨e1, e2, h1, h2, h3⟩ := hh pre a l e hL hi
      obtain ⟨e', h4, h5⟩ := ih (pre ++ [a]) e2 (by rw [hL]; simp) h3
      refine ⟨e', ?_, h5⟩
      rw [List.map_cons]
      conv => lhs; unfold forGo
      simp only [h1, h2]
      exact h4
  exact key L [] e rfl h0
theorem r1_e {a : M Vl} {e : En} {n : Nat} (h : a e = .ok (.v (.int (n : Int))) e) (hs : n ≤ 1000000) : iR1 a e = .ok ((List.range n).map nD) e := r1_nat h hs
theorem r2_e {a b : M Vl} {e : En} {i n : Nat} (h : a e = .ok (.v (.int (i : Int))) e) (h2 : b e = .ok (.v (.int (n : Int))) e) (hi : i ≤ 1000000) (hn : n ≤ 1000000) : iR2 a b e = .ok ((List.range' i (n - i)).map nD) e := r2_nat h h2 hi hn
theorem rgOk_0 {n : Nat} (h : n ≤ 1000000) : rgOk 0 (n : Int) = true := by
  unfold rgOk
  have h0 : smallI 0 = true := small_le (by decide)
  have h1 : smallI (n : Int) = true := small_nat h
  rw [h0, h1]
  simp
  unfold lim
  omega
theorem forAll {α : Type} {g : D → En → Option En} {b : C} (h : α → D) (I : En → Prop) : ∀ (L : List α) (e : En), I e → (∀ a ∈ L, ∀ e, I e → ∃ e1 e2, g (h a) e = some e1 ∧ b e1 = .nxt e2 ∧ I e2) → ∃ e', forGo g b (L.map h) e = .nxt e' ∧ I e' := fun L e h0 hh => by
  obtain ⟨e', h1, h2⟩ := forF (g := g) (b := b) h (fun (a : Unit) _ => a) (fun _ e => I e) L () e h0 fun a ha _ e hi => hh a ha e hi
  exact ⟨e', h1, h2⟩
theorem forN' {g : D → En → Option En} {b : C} (h : Nat → D) (I : Nat → En → Prop) : ∀ (m a : Nat) {e : En}, I a e → (∀ j e, a ≤ j → j < a + m → I j e → ∃ e1 e2, g (h j) e = some e1 ∧ b e1 = .nxt e2 ∧ I (j + 1) e2) → ∃ e', forGo g b ((List.range' a m).map h) e = .nxt e' ∧ I (a + m) e'
  | 0, a, e, h0, _ => ⟨e, rfl, h0⟩
  | m + 1, a, e, h0, hh => by
    obtain ⟨e1, e2, h1, h2, h3⟩ := hh a e (Nat.le_refl _) (by omega) h0
    obtain ⟨e', h4, h5⟩ := forN' h I m (a + 1) h3 fun j e h1 h2 => hh j e (by omega) (by omega)
    refine ⟨e', ?_, by rwa [show a + (m + 1) = a + 1 + m by omega]⟩
    rw [List.range'_succ, List.map_cons]
    conv => lhs; unfold forGo
    simp only [h1, h2]
    exact h4
theorem forN {g : D → En → Option En} {b : C} (h : Nat → D) (I : Nat → En → Prop) (n : Nat) {e : En} (h0 : I 0 e) (hh : ∀ j e, j < n → I j e → ∃ e1 e2, g (h j) e = some e1 ∧ b e1 = .nxt e2 ∧ I (j + 1) e2) : ∃ e', forGo g b ((List.range n).map h) e = .nxt e' ∧ I n e' := by
  have := forN' h I n 0 h0 fun j e _ h2 => hh j e (by omega)
  rwa [Nat.zero_add, ← List.range_eq_range'] at this
/-! ### loops that may end by a return -/
theorem forB {α : Type} {g : D → En → Option En} {b : C} (h : α → D) (I : En → Prop) (P : α → Bool) (v : Vl) : ∀ (l : List α) (e : En), I e →
    (∀ a ∈ l, ∀ e, I e → ∃ e1, g (h a) e = some e1 ∧ if P a = true then ∃ e2, b e1 = .nxt e2 ∧ I e2 else ∃ e2, b e1 = .ret v e2) →
    if l.all P = true then ∃ e', forGo g b (l.map h) e = .nxt e' ∧ I e' else ∃ e', forGo g b (l.map h) e = .ret v e'
  | [], e, hi, _ => ⟨e, rfl, hi⟩
  | a :: l, e, hi, hh => by
    obtain ⟨e1, h1, h2⟩ := hh a (by simp) e hi
    rw [List.all_cons, List.map_cons]
    cases hP : P a with
    | true =>
      rw [hP, if_pos rfl] at h2
      obtain ⟨e2, h3, h4⟩ := h2
      have := forB h I P v l e2 h4 fun x hx => hh x (by simp [hx])
      rw [Bool.true_and]
      have hq : forGo g b (h a :: l.map h) e = forGo g b (l.map h) e2 := by
        conv => lhs; unfold forGo
        simp only [h1, h3]
      rw [hq]
      exact this
    | false =>
      rw [hP, if_neg (by simp)] at h2
      obtain ⟨e2, h3⟩ := h2
      rw [Bool.false_and, if_neg (by simp)]
      exact ⟨e2, by conv => lhs; unfold forGo
                    simp only [h1, h3]⟩
theorem forM {α β : Type} {g : D → En → Option En} {b : C} (h : α → D) (step : β → α → Option β) (I : β → En → Prop) (v : Vl) : ∀ (l : List α) (acc : β) (e : En), I acc e →
    (∀ a ∈ l, ∀ acc e, I acc e → ∃ e1, g (h a) e = some e1 ∧ match step acc a with
      | some acc' => ∃ e2, b e1 = .nxt e2 ∧ I acc' e2
      | none => ∃ e2, b e1 = .ret v e2) → match l.foldlM step acc with
      | some r => ∃ e', forGo g b (l.map h) e = .nxt e' ∧ I r e'
      | none => ∃ e', forGo g b (l.map h) e = .ret v e'
  | [], acc, e, hi, _ => ⟨e, rfl, hi⟩
  | a :: l, acc, e, hi, hh => by
    obtain ⟨e1, h1, h2⟩ := hh a (by simp) acc e hi
    rw [List.map_cons, List.foldlM_cons]
    cases hP : step acc a with
    | some acc' =>
      rw [hP] at h2
      obtain ⟨e2, h3, h4⟩ := h2
      have := forM h step I v l acc' e2 h4 fun x hx => hh x (by simp [hx])
      have hq : forGo g b (h a :: l.map h) e = forGo g b (l.map h) e2 := by
        conv => lhs; unfold forGo
        simp only [h1, h3]
      rw [hq]
      exact this
    | none =>
      rw [hP] at h2
      obtain ⟨e2, h3⟩ := h2
      exact ⟨e2, by conv => lhs; unfold forGo
                    simp only [h1, h3]⟩
end Fx
end

section
set_option linter.all false
/-! Ha: least costs of edits: no program in sight. -/
namespace Fx
/-- costs -/
structure Cst where
  dr : Int
  ad : Int
  ch : Int
structure Cst.Ps (c : Cst) : Prop where
  dr : 0 < c.dr
  ad : 0 < c.ad
  ch : 0 < c.ch
def sg (a : List Int) (i : Nat) : Int := a.getD i 0
def stp (c : Cst) (a b : List Int) (i j : Nat) : Int := if sg a i = sg b j then 0 else c.ch
def nextR (c : Cst) (prev f : Nat → Int) : Nat → Int
  | 0 => prev 0 + c.dr
  | j + 1 => min (prev (j + 1) + c.dr) (min (nextR c prev f j + c.ad) (prev j + f j))
/-- least costs from beginnings to beginnings -/
def eD (c : Cst) (a b : List Int) : Nat → Nat → Int
  | 0 => fun j => (j : Int) * c.ad
  | i + 1 => nextR c (eD c a b i) (stp c a b i)
section
variable {c : Cst} {a b : List Int}
theorem eD_00 : eD c a b 0 0 = 0 := by simp [eD]
theorem eD_0 (j : Nat) : eD c a b 0 j = (j : Int) * c.ad := rfl
theorem eD_0s (j : Nat) : eD c a b 0 (j + 1) = eD c a b 0 j + c.ad := by
  rw [eD_0, eD_0, Int.natCast_add, Int.add_mul]; simp
theorem eD_s0 (i : Nat) : eD c a b (i + 1) 0 = eD c a b i 0 + c.dr := rfl
theorem eD_ss (i j : Nat) : eD c a b (i + 1) (j + 1) = min (eD c a b i (j + 1) + c.dr) (min (eD c a b (i + 1) j + c.ad) (eD c a b i j + stp c a b i j)) := rfl
theorem eD_drop (i j : Nat) : eD c a b (i + 1) j ≤ eD c a b i j + c.dr := by
  cases j with
  | zero => rw [eD_s0]; exact Int.le_refl _
  | succ j => rw [eD_ss]; omega
theorem eD_add (i j : Nat) : eD c a b i (j + 1) ≤ eD c a b i j + c.ad := by
  cases i with
  | zero => rw [eD_0s]; exact Int.le_refl _
  | succ i => rw [eD_ss]; omega
theorem eD_sub (i j : Nat) : eD c a b (i + 1) (j + 1) ≤ eD c a b i j + stp c a b i j := by rw [eD_ss]; omega
end
/-- ways of editing beginnings -/
inductive ER (c : Cst) (a b : List Int) : Nat → Nat → Int → Prop
  | z : ER c a b 0 0 0
  | d {i j : Nat} {k : Int} : ER c a b i j k → ER c a b (i + 1) j (k + c.dr)
  | n {i j : Nat} {k : Int} : ER c a b i j k → ER c a b i (j + 1) (k + c.ad)
  | s {i j : Nat} {k : Int} : ER c a b i j k → ER c a b (i + 1) (j + 1) (k + stp c a b i j)
theorem eD_le {c : Cst} {a b : List Int} {i j : Nat} {k : Int} (h : ER c a b i j k) : eD c a b i j ≤ k := by
  induction h with
  | z => rw [eD_00]; exact Int.le_refl _
  | @d i j k _ ih => have := eD_drop (c := c) (a := a) (b := b) i j; omega
  | @n i j k _ ih => have := eD_add (c := c) (a := a) (b := b) i j; omega
  | @s i j k _ ih => have := eD_sub (c := c) (a := a) (b := b) i j; omega
theorem eD_way (c : Cst) (a b : List Int) : ∀ i j : Nat, ER c a b i j (eD c a b i j)
  | 0, 0 => by rw [eD_00]; exact .z
  | 0, j + 1 => by rw [eD_0s]; exact .n (eD_way c a b 0 j)
  | i + 1, 0 => by rw [eD_s0]; exact .d (eD_way c a b i 0)
  | i + 1, j + 1 => by
    have e := eD_ss (c := c) (a := a) (b := b) i j
    by_cases h1 : eD c a b (i + 1) (j + 1) = eD c a b i (j + 1) + c.dr
    · rw [h1]; exact .d (eD_way c a b i (j + 1))
    · by_cases h2 : eD c a b (i + 1) (j + 1) = eD c a b (i + 1) j + c.ad
      · rw [h2]; exact .n (eD_way c a b (i + 1) j)
      · have : eD c a b (i + 1) (j + 1) = eD c a b i j + stp c a b i j := by omega
        rw [this]; exact .s (eD_way c a b i j)
theorem stp_nn {c : Cst} (h : c.Ps) (a b : List Int) (i j : Nat) : 0 ≤ stp c a b i j := by
  unfold stp
  have := h.ch
  split <;> omega
theorem stp_tri {c : Cst} (h : c.Ps) (a b d : List Int) (i j k : Nat) : stp c a d i k ≤ stp c a b i j + stp c b d j k := by
  unfold stp
  have := h.ch
  by_cases e1 : sg a i = sg b j
  · by_cases e2 : sg b j = sg d k
    · rw [if_pos e1, if_pos e2, if_pos (e1.trans e2)]; omega
    · rw [if_pos e1, if_neg e2]; split <;> omega
  · rw [if_neg e1]
    split <;> split <;> omega
theorem er_tri {c : Cst} (h : c.Ps) {a b d : List Int} : ∀ (m i j k : Nat) (x y : Int), i + j + k ≤ m → ER c a b i j x → ER c b d j k y → ∃ z, ER c a d i k z ∧ z ≤ x + y := by
  have hd := h.dr
  have ha := h.ad
  have hc := h.ch
  intro m
  induction m with
  | zero =>
    intro i j k x y hm h1 h2
    cases h1 with
    | z => cases h2 with
      | z => exact ⟨0, .z, by omega⟩
      | n _ => omega
    | _ => omega
  | succ m ih =>
    intro i j k x y hm h1 h2
    cases h1 with
    | z =>
      cases h2 with
      | z => exact ⟨0, .z, by omega⟩
      | @n _ k' y' q =>
        obtain ⟨z, z1, z2⟩ := ih 0 0 k' 0 y' (by omega) .z q
        exact ⟨_, .n z1, by omega⟩
    | @d i' _ x' q =>
      obtain ⟨z, z1, z2⟩ := ih i' j k x' y (by omega) q h2
      exact ⟨_, .d z1, by omega⟩
    | @n _ j' x' q =>
      cases h2 with
      | @d _ _ y' r =>
        obtain ⟨z, z1, z2⟩ := ih i j' k x' y' (by omega) q r
        exact ⟨z, z1, by omega⟩
      | @n _ k' y' r =>
        obtain ⟨z, z1, z2⟩ := ih i (j' + 1) k' (x' + c.ad) y' (by omega) (.n q) r
        exact ⟨_, .n z1, by omega⟩
      | @s _ k' y' r =>
        obtain ⟨z, z1, z2⟩ := ih i j' k' x' y' (by omega) q r
        have := stp_nn h b d j' k'
        exact ⟨_, .n z1, by omega⟩
    | @s i' j' x' q =>
      cases h2 with
      | @d _ _ y' r =>
        obtain ⟨z, z1, z2⟩ := ih i' j' k x' y' (by omega) q r
        have := stp_nn h a b i' j'
        exact ⟨_, .d z1, by omega⟩
      | @n _ k' y' r =>
        obtain ⟨z, z1, z2⟩ := ih (i' + 1) (j' + 1) k' (x' + stp c a b i' j') y' (by omega) (.s q) r
        exact ⟨_, .n z1, by omega⟩
      | @s _ k' y' r =>
        obtain ⟨z, z1, z2⟩ := ih i' j' k' x' y' (by omega) q r
        have := stp_tri h a b d i' j' k'
        exact ⟨_, .s z1, by omega⟩
/-- the least cost -/
def eC' (c : Cst) (a b : List Int) : Int := eD c a b a.length b.length
theorem eC_tri {c : Cst} (h : c.Ps) (a b d : List Int) : eC' c a d ≤ eC' c a b + eC' c b d := by
  obtain ⟨z, z1, z2⟩ := er_tri h _ _ _ _ _ _ (Nat.le_refl _) (eD_way c a b a.length b.length) (eD_way c b d b.length d.length)
  have := eD_le z1
  unfold eC'
  omega
def Cst.back (c : Cst) : Cst := ⟨c.ad, c.dr, c.ch⟩
theorem stp_back (c : Cst) (a b : List Int) (i j : Nat) : stp c.back b a j i = stp c a b i j := by
  unfold stp Cst.back
  by_cases h : sg a i = sg b j
  · rw [if_pos h, if_pos h.symm]
  · rw [if_neg h, if_neg fun z => h z.symm]
theorem er_back {c : Cst} {a b : List Int} {i j : Nat} {k : Int} (h : ER c a b i j k) : ER c.back b a j i k := by
  induction h with
  | z => exact .z
  | d _ ih => exact .n ih
  | n _ ih => exact .d ih
  | @s i j k _ ih =>
    have := ER.s ih
    rw [stp_back] at this
    exact this
theorem eC_back (c : Cst) (a b : List Int) : eC' c.back b a = eC' c a b :=
  Int.le_antisymm (eD_le (er_back (eD_way c a b _ _))) (eD_le (er_back (c := c.back) (eD_way c.back b a _ _)))
theorem er_nn {c : Cst} (h : c.Ps) {a b : List Int} {i j : Nat} {k : Int} (hr : ER c a b i j k) : 0 ≤ k := by
  have hd := h.dr
  have ha := h.ad
  induction hr with
  | z => omega
  | d _ ih => omega
  | n _ ih => omega
  | @s i j k _ ih => have := stp_nn h a b i j; omega
theorem er_zero {c : Cst} (h : c.Ps) {a b : List Int} {i j : Nat} {k : Int} (hr : ER c a b i j k) (h0 : k = 0) : i = j ∧ ∀ t, t < i → sg a t = sg b t := by
  have hd := h.dr
  have ha := h.ad
  have hc := h.ch
  induction hr with
  | z => exact ⟨rfl, fun t ht => by omega⟩
  | d q ih => have := er_nn h q; omega
  | n q ih => have := er_nn h q; omega
  | @s i j k q ih =>
    have h1 := er_nn h q
    have h2 := stp_nn h a b i j
    obtain ⟨rfl, h3⟩ := ih (by omega)
    have h4 : stp c a b i i = 0 := by omega
    refine ⟨rfl, fun t ht => ?_⟩
    by_cases ht' : t < i
    · exact h3 t ht'
    · have : t = i := by omega
      subst this
      unfold stp at h4
      by_cases e : sg a t = sg b t
      · exact e
      · rw [if_neg e] at h4; omega
theorem eC_nn {c : Cst} (h : c.Ps) (a b : List Int) : 0 ≤ eC' c a b := er_nn h (eD_way c a b _ _)
theorem eD_nn {c : Cst} (h : c.Ps) (a b : List Int) (i j : Nat) : 0 ≤ eD c a b i j := er_nn h (eD_way c a b _ _)
theorem sg_ext {a b : List Int} (hl : a.length = b.length) (h : ∀ t, t < a.length → sg a t = sg b t) : a = b := by
  apply List.ext_getElem?
  intro t
  by_cases ht : t < a.length
  · have := h t ht
    unfold sg at this
    rw [List.getElem?_eq_getElem ht, List.getElem?_eq_getElem (by omega)]
    simp only [List.getD, List.getElem?_eq_getElem ht, List.getElem?_eq_getElem (show t < b.length by omega), Option.getD_some] at this
    rw [this]
  · rw [List.getElem?_eq_none (by omega), List.getElem?_eq_none (by omega)]
theorem er_same (c : Cst) (a : List Int) : ∀ i, ER c a a i i 0
  | 0 => .z
  | i + 1 => by
    have := ER.s (er_same c a i)
    have e : stp c a a i i = 0 := by simp [stp]
    rw [e] at this
    exact this
theorem eC_zero {c : Cst} (h : c.Ps) (a b : List Int) : eC' c a b = 0 ↔ a = b := by
  constructor
  · intro h0
    obtain ⟨h1, h2⟩ := er_zero h (eD_way c a b _ _) h0
    exact sg_ext h1 h2
  · rintro rfl
    exact Int.le_antisymm (eD_le (er_same c a _)) (eC_nn h a a)
theorem er_len (c : Cst) (a b : List Int) : ∀ i j : Nat, ER c a b i j ((i : Int) * c.dr + (j : Int) * c.ad)
  | 0, 0 => by simpa using ER.z
  | 0, j + 1 => by
    have := ER.n (er_len c a b 0 j)
    have e : ((0 : Nat) : Int) * c.dr + (j : Int) * c.ad + c.ad = ((0 : Nat) : Int) * c.dr + ((j + 1 : Nat) : Int) * c.ad := by
      rw [Int.natCast_add, Int.add_mul]; simp
    rwa [e] at this
  | i + 1, j => by
    have := ER.d (er_len c a b i j)
    have e : (i : Int) * c.dr + (j : Int) * c.ad + c.dr = ((i + 1 : Nat) : Int) * c.dr + (j : Int) * c.ad := by
      rw [Int.natCast_add, Int.add_mul]; simp; omega
    rwa [e] at this
theorem eD_up (c : Cst) (a b : List Int) (i j : Nat) : eD c a b i j ≤ (i : Int) * c.dr + (j : Int) * c.ad := eD_le (er_len c a b i j)
/-! ### rows that both words have -/
def c112 : Cst := ⟨1, 1, 2⟩
inductive MS (a b : List Int) : Nat → Nat → List Nat → Prop
  | z : MS a b 0 0 []
  | d {i j : Nat} {l : List Nat} : MS a b i j l → MS a b (i + 1) j l
  | n {i j : Nat} {l : List Nat} : MS a b i j l → MS a b i (j + 1) l
  | m {i j : Nat} {l : List Nat} : MS a b i j l → sg a i = sg b j → MS a b (i + 1) (j + 1) (l ++ [i])
theorem ms_er {a b : List Int} {i j : Nat} {l : List Nat} (h : MS a b i j l) : ER c112 a b i j ((i : Int) + (j : Int) - 2 * (l.length : Int)) := by
  induction h with
  | z => simpa using ER.z
  | @d i j l _ ih =>
    have := ER.d ih
    have e : (i : Int) + (j : Int) - 2 * (l.length : Int) + c112.dr = ((i + 1 : Nat) : Int) + (j : Int) - 2 * (l.length : Int) := by show _ + 1 = _; omega
    rwa [e] at this
  | @n i j l _ ih =>
    have := ER.n ih
    have e : (i : Int) + (j : Int) - 2 * (l.length : Int) + c112.ad = (i : Int) + ((j + 1 : Nat) : Int) - 2 * (l.length : Int) := by show _ + 1 = _; omega
    rwa [e] at this
  | @m i j l _ hs ih =>
    have := ER.s ih
    have e : (i : Int) + (j : Int) - 2 * (l.length : Int) + stp c112 a b i j = ((i + 1 : Nat) : Int) + ((j + 1 : Nat) : Int) - 2 * ((l ++ [i]).length : Int) := by
      unfold stp
      rw [if_pos hs]
      simp
      omega
    rwa [e] at this
theorem er_ms {a b : List Int} {i j : Nat} {k : Int} (h : ER c112 a b i j k) : ∃ l, MS a b i j l ∧ (i : Int) + (j : Int) - 2 * (l.length : Int) ≤ k := by
  induction h with
  | z => exact ⟨[], .z, by simp⟩
  | @d i j k _ ih =>
    obtain ⟨l, h1, h2⟩ := ih
    exact ⟨l, .d h1, by show _ ≤ k + 1; omega⟩
  | @n i j k _ ih =>
    obtain ⟨l, h1, h2⟩ := ih
    exact ⟨l, .n h1, by show _ ≤ k + 1; omega⟩
  | @s i j k _ ih =>
    obtain ⟨l, h1, h2⟩ := ih
    unfold stp
    by_cases e : sg a i = sg b j
    · rw [if_pos e]
      exact ⟨_, .m h1 e, by simp; omega⟩
    · rw [if_neg e]
      exact ⟨l, .n (.d h1), by show _ ≤ k + 2; omega⟩
theorem ms_lt {a b : List Int} {i j : Nat} {l : List Nat} (h : MS a b i j l) : (∀ x ∈ l, x < i) ∧ l.Pairwise (· < ·) := by
  induction h with
  | z => simp
  | d _ ih => exact ⟨fun x hx => by have := ih.1 x hx; omega, ih.2⟩
  | n _ ih => exact ih
  | @m i j l _ _ ih =>
    refine ⟨fun x hx => ?_, ?_⟩
    · rcases List.mem_append.mp hx with q | q
      · have := ih.1 x q; omega
      · simp at q; omega
    · rw [List.pairwise_append]
      exact ⟨ih.2, by simp, fun x hx y hy => by simp at hy; subst hy; exact ih.1 x hx⟩
theorem take_succ_sg {b : List Int} {j : Nat} (h : j < b.length) : b.take (j + 1) = b.take j ++ [sg b j] := by
  rw [List.take_succ, List.getElem?_eq_getElem h]
  simp [sg, List.getD, List.getElem?_eq_getElem h]
theorem ms_sub {a b : List Int} {i j : Nat} {l : List Nat} (h : MS a b i j l) (hj : j ≤ b.length) : (l.map (sg a)).Sublist (b.take j) := by
  induction h with
  | z => simp
  | d _ ih => exact ih hj
  | @n i j l _ ih =>
    rw [take_succ_sg (by omega)]
    exact (ih (by omega)).trans (List.sublist_append_left _ _)
  | @m i j l _ hs ih =>
    rw [take_succ_sg (by omega), List.map_append]
    refine (ih (by omega)).append ?_
    simp [hs]
theorem sub_ms {a b : List Int} : ∀ (j i : Nat) (l : List Nat), j ≤ b.length → (∀ x ∈ l, x < i) → l.Pairwise (· < ·) → (l.map (sg a)).Sublist (b.take j) → MS a b i j l := by
  intro j
  have skip : ∀ (i : Nat) (j : Nat) (l : List Nat) (d : Nat), MS a b i j l → MS a b (i + d) j l := fun i j l d h => by
    induction d with
    | zero => exact h
    | succ d ih => exact .d ih
  induction j with
  | zero =>
    intro i l hj hl hp hs
    have : l = [] := by simpa using hs
    subst this
    have := skip 0 0 [] i .z
    rwa [Nat.zero_add] at this
  | succ j ih =>
    intro i l hj hl hp hs
    rw [take_succ_sg (by omega)] at hs
    by_cases h0 : l = []
    · subst h0
      exact .n (ih i [] (by omega) (by simp) .nil (by simp))
    · obtain ⟨r, x, rfl⟩ : ∃ r x, l = r ++ [x] := ⟨l.dropLast, l.getLast h0, (List.dropLast_concat_getLast h0).symm⟩
      rw [List.map_append] at hs
      rw [List.sublist_append_iff] at hs
      obtain ⟨u, v, e, hu, hv⟩ := hs
      rw [List.pairwise_append] at hp
      by_cases hv0 : v = []
      · subst hv0
        rw [List.append_nil] at e
        exact .n (ih i (r ++ [x]) (by omega) hl (by rw [List.pairwise_append]; exact hp) (by rw [List.map_append, e]; exact hu))
      · have hvl : v = [sg b j] := by
          have h1 := hv.length_le
          cases v with
          | nil => exact absurd rfl hv0
          | cons y v =>
            cases v with
            | nil =>
              have := hv.subset (List.mem_cons_self)
              simp at this
              rw [this]
            | cons z v => simp at h1
        subst hvl
        have e1 : r.map (sg a) = u ∧ sg a x = sg b j := by
          have := List.append_inj' e (by simp)
          exact ⟨this.1, by simpa using this.2⟩
        have hx := hl x (by simp)
        have h2 := ih x r (by omega) (fun y hy => hp.2.2 y hy x (by simp)) hp.1 (by rw [e1.1]; exact hu)
        have h3 := skip (x + 1) (j + 1) (r ++ [x]) (i - (x + 1)) (.m h2 e1.2)
        rwa [show x + 1 + (i - (x + 1)) = i by omega] at h3
/-! ### taking signs as they come -/
def gStep (row : List Int) (k : Nat) (s : Int) : Nat := if k < row.length ∧ sg row k = s then k + 1 else k
def gAll (row word : List Int) : Nat := word.foldl (gStep row) 0
theorem gAll_snoc (row p : List Int) (s : Int) : gAll row (p ++ [s]) = gStep row (gAll row p) s := by simp [gAll]
theorem snoc_ind {P : List Int → Prop} (h0 : P []) (h1 : ∀ p s, P p → P (p ++ [s])) (l : List Int) : P l := by
  have key : ∀ (n : Nat) (l : List Int), l.length = n → P l := by
    intro n
    induction n with
    | zero => intro l hl; rw [List.eq_nil_of_length_eq_zero hl]; exact h0
    | succ n ih =>
      intro l hl
      have hne : l ≠ [] := fun z => by subst z; simp at hl
      rw [← List.dropLast_concat_getLast hne]
      exact h1 _ _ (ih _ (by rw [List.length_dropLast]; omega))
  exact key _ l rfl
theorem gAll_ok (row word : List Int) : gAll row word ≤ row.length ∧ (row.take (gAll row word)).Sublist word ∧ ∀ t, t ≤ row.length → (row.take t).Sublist word → t ≤ gAll row word := by
  refine snoc_ind (P := fun word => gAll row word ≤ row.length ∧ (row.take (gAll row word)).Sublist word ∧ ∀ t, t ≤ row.length → (row.take t).Sublist word → t ≤ gAll row word) ?_ ?_ word
  · refine ⟨Nat.zero_le _, by simp [gAll], fun t ht h => ?_⟩
    have h1 : min t row.length ≤ 0 := by
      have := h.length_le
      rwa [List.length_take] at this
    show t ≤ 0
    omega
  · intro p s ⟨h1, h2, h3⟩
    rw [gAll_snoc]
    generalize gAll row p = k at *
    have up : ∀ t, t ≤ row.length → (row.take t).Sublist (p ++ [s]) → t ≤ k ∨ (t = k + 1 ∧ k < row.length ∧ sg row k = s) := fun t ht h => by
      rw [List.sublist_append_iff] at h
      obtain ⟨u, v, e, hu, hv⟩ := h
      by_cases hv0 : v = []
      · subst hv0
        rw [List.append_nil] at e
        exact .inl (h3 t ht (by rw [e]; exact hu))
      · have hvl : v = [s] := by
          have hl := hv.length_le
          cases v with
          | nil => exact absurd rfl hv0
          | cons y v =>
            cases v with
            | nil =>
              have := hv.subset (List.mem_cons_self)
              simp at this
              rw [this]
            | cons z v => simp at hl
        subst hvl
        cases t with
        | zero => simp at e
        | succ t =>
          rw [take_succ_sg (by omega)] at e
          have e1 := List.append_inj' e (by simp)
          have := h3 t (by omega) (by rw [e1.1]; exact hu)
          have e2 : sg row t = s := by simpa using e1.2
          by_cases ht' : t = k
          · subst ht'; exact .inr ⟨rfl, by omega, e2⟩
          · exact .inl (by omega)
    unfold gStep
    by_cases hc : k < row.length ∧ sg row k = s
    · rw [if_pos hc]
      refine ⟨hc.1, ?_, fun t ht h => ?_⟩
      · rw [take_succ_sg hc.1, hc.2]
        exact h2.append (List.Sublist.refl _)
      · rcases up t ht h with q | q <;> omega
    · rw [if_neg hc]
      refine ⟨h1, h2.trans (List.sublist_append_left _ _), fun t ht h => ?_⟩
      rcases up t ht h with q | q
      · exact q
      · exact absurd q.2 hc
theorem gAll_iff (row word : List Int) : gAll row word = row.length ↔ row.Sublist word := by
  obtain ⟨h1, h2, h3⟩ := gAll_ok row word
  constructor
  · intro h
    rw [h, List.take_length] at h2
    exact h2
  · intro h
    have := h3 row.length (Nat.le_refl _) (by rw [List.take_length]; exact h)
    omega
end Fx
end

section
set_option linter.all false
set_option maxRecDepth 10000
/-! Hb: check_words, edit_table. -/
namespace Fx
def csD (c : Cst) : D := .tup [.int c.dr, .int c.ad, .int c.ch]
structure Wo (a : List Int) : Prop where
  len : a.length ≤ 8
theorem ti_items' (w : List Int) : (ti w).items = some (w.map .int) := rfl
theorem ti_len' (w : List Int) : oLen (.v (ti w)) = some (.v (.int (w.length : Int))) := by simp [ti, oLen, D.items]
theorem cw_word {a b : List Int} {cD x : D} (w : List Int) (hw : w.length ≤ 8) (x4 : Option Vl) : G.check_words_0l0 [some (.v (ti a)), some (.v (ti b)), some (.v cD), some (.v (ti w)), none, none] = .nxt [some (.v (ti a)), some (.v (ti b)), some (.v cD), some (.v (ti w)), none, none] := by
  have hc := comp0 (vs := [4]) (it := iL (eV 3)) (g := gN 4) (x := e1 oNot (eCall G.F_is_integer [.va (eV 4)])) (e := [some (.v (ti a)), some (.v (ti b)), some (.v cD), some (.v (ti w)), none, none]) (e1 := [some (.v (ti a)), some (.v (ti b)), some (.v cD), some (.v (ti w)), none, none]) w D.int (fun _ => .bl false) _ (fun i => [some (.v (ti a)), some (.v (ti b)), some (.v cD), some (.v (ti w)), some (.v (.int i)), none]) (by simp) (by unfold lim; omega) rfl rfl (fun i hi => ⟨rfl, ⟨.v (.bl false), by simp [is_integer_int], rfl⟩, rfl⟩)
  have ha := any_ff w
  have hl := ti_len' w
  have h8 : ¬ (8 : Int) < (w.length : Int) := by omega
  unfold G.check_words_0l0 G.check_words_0l0t1
  generalize eComp [4] (iL (eV 3)) (gN 4) tYes (e1 oNot (eCall G.F_is_integer [.va (eV 4)])) = Y at hc ⊢
  generalize w.map (fun _ => D.bl false) = R at *
  have hA : (ti w).isA .tTuple = true := rfl
  generalize ti w = W at *
  simp [hc, ha, hl, h8, hA, -len_v]
theorem check_words_ok {a b : List Int} {c : Cst} (ha : a.length ≤ 8) (hb : b.length ≤ 8) (hc : c.Ps) : G.F_check_words [.v (ti a), .v (ti b), .v (csD c)] = .ok (.v .non) [] := by
  have h0 : G.check_words_0 [some (.v (ti a)), some (.v (ti b)), some (.v (csD c)), none, none, none] = .nxt [some (.v (ti a)), some (.v (ti b)), some (.v (csD c)), some (.v (ti b)), none, none] := by
    have q1 := cw_word (a := a) (b := b) (cD := csD c) (x := .non) a ha none
    have q2 := cw_word (a := a) (b := b) (cD := csD c) (x := .non) b hb none
    unfold G.check_words_0
    generalize G.check_words_0l0 = L at *
    generalize ti a = A at *
    generalize ti b = B at *
    simp [forGo, q1, q2]
  have h1 : G.check_words_1 [some (.v (ti a)), some (.v (ti b)), some (.v (csD c)), some (.v (ti b)), none, none] = .nxt [some (.v (ti a)), some (.v (ti b)), some (.v (csD c)), some (.v (ti b)), none, none] := by
    have q := comp0 (vs := [5]) (it := iL (eV 2)) (g := gN 5) (x := G.check_words_1x1) (e := [some (.v (ti a)), some (.v (ti b)), some (.v (csD c)), some (.v (ti b)), none, none]) (e1 := [some (.v (ti a)), some (.v (ti b)), some (.v (csD c)), some (.v (ti b)), none, none]) [c.dr, c.ad, c.ch] D.int (fun _ => .bl false) _ (fun i => [some (.v (ti a)), some (.v (ti b)), some (.v (csD c)), some (.v (ti b)), none, some (.v (.int i))]) (by simp [csD]) (by simp [lim]) rfl rfl (fun i hi => by
      have hp : 0 < i := by
        simp at hi
        rcases hi with rfl | rfl | rfl
        · exact hc.dr
        · exact hc.ad
        · exact hc.ch
      have hn : ¬ i ≤ 0 := by omega
      exact ⟨rfl, ⟨.v (.bl false), by unfold G.check_words_1x1; simp [is_integer_int, hn], rfl⟩, rfl⟩)
    have hy : oAny (.o ([c.dr, c.ad, c.ch].map fun _ => D.bl false)) = some (.v (.bl false)) := any_ff _
    have hl : oLen (.v (csD c)) = some (.v (.int 3)) := rfl
    have hA : (csD c).isA .tTuple = true := rfl
    unfold G.check_words_1 G.check_words_1t1
    generalize eComp [5] (iL (eV 2)) (gN 5) tYes G.check_words_1x1 = Y at q ⊢
    generalize [c.dr, c.ad, c.ch].map (fun _ => D.bl false) = R at *
    generalize ti a = A at *
    generalize ti b = B at *
    generalize csD c = Z at *
    simp [q, hy, hl, hA, -len_v]
  show runDef 6 [] G.c_check_words _ = _
  have hz : G.c_check_words [some (.v (ti a)), some (.v (ti b)), some (.v (csD c)), none, none, none] = .nxt [some (.v (ti a)), some (.v (ti b)), some (.v (csD c)), some (.v (ti b)), none, none] := by
    unfold G.c_check_words
    exact (seq_nxt h0).trans h1
  unfold runDef
  show (match G.c_check_words [some (.v (ti a)), some (.v (ti b)), some (.v (csD c)), none, none, none] with
    | .nxt e => _
    | .ret x e => _
    | .ex x _ => _
    | _ => _) = _
  rw [hz]
  rfl
/-! the table -/
def rowE (f : Nat → Int) (m : Nat) : List Int := (List.range m).map f
def eT (c : Cst) (a b : List Int) : List (List Int) := (List.range (a.length + 1)).map fun i => rowE (eD c a b i) (b.length + 1)
def lsD (r : List Int) : D := .lst (r.map .int)
theorem rowE_succ (f : Nat → Int) (m : Nat) : rowE f (m + 1) = rowE f m ++ [f m] := by unfold rowE; rw [List.range_succ, List.map_append]; rfl
theorem rowE_len (f : Nat → Int) (m : Nat) : (rowE f m).length = m := by simp [rowE]
theorem rowE_get (f : Nat → Int) {m j : Nat} (h : j < m) : (rowE f m)[j]? = some (f j) := by simp [rowE, h]
theorem ix_neg1 (l : List D) (x : D) : oIx (.o (l ++ [x])) (.v (.int (-1))) = some (.v x) := by
  have h : atD (l ++ [x]) (-1) = some x := by
    unfold atD ixN
    have e1 : ¬ (0 : Int) ≤ -1 := by omega
    have e2 : -((l ++ [x]).length : Int) ≤ -1 := by simp; omega
    rw [if_neg e1, if_pos e2]
    have e3 : (-1 + ((l ++ [x]).length : Int)).toNat = l.length := by simp; omega
    rw [e3]
    simp
  simp [oIx, h]
theorem ix_neg1t (l : List D) (x : D) : oIx (.v (.tup (l ++ [x]))) (.v (.int (-1))) = some (.v x) := by
  have := ix_neg1 l x
  simpa [oIx] using this
theorem lsD_ix (r : List Int) {j : Nat} {v : Int} (h : r[j]? = some v) : oIx (.v (lsD r)) (.v (.int (j : Int))) = some (.v (.int v)) := by
  unfold lsD
  simp [oIx, atD_nat, h]
theorem enum_ti_sg (b : List Int) : enumD 0 (b.map .int) = (List.range b.length).map fun j => .tup [.int (j : Int), .int (sg b j)] := by
  have key : ∀ (l : List Int) (k : Nat), enumD k (l.map .int) = (List.range l.length).map fun j => .tup [.int ((k + j : Nat) : Int), .int (sg l j)] := by
    intro l
    induction l with
    | nil => intro k; rfl
    | cons x l ih =>
      intro k
      rw [List.map_cons, enumD, ih, List.length_cons, List.range_succ_eq_map, List.map_cons, List.map_map]
      congr 1
      refine List.map_congr_left fun j _ => ?_
      show D.tup [.int ((k + 1 + j : Nat) : Int), .int (sg l j)] = D.tup [.int ((k + (j + 1) : Nat) : Int), .int (sg (x :: l) (j + 1))]
      have : k + 1 + j = k + (j + 1) := by omega
      rw [this]
      simp [sg]
  rw [key b 0]
  refine List.map_congr_left fun j _ => ?_
  rw [Nat.zero_add]
def tEnv (c : Cst) (a b : List Int) (rows : List (List Int)) (x7 x8 x9 x10 x11 : Option Vl) : En :=
  [some (.v (ti a)), some (.v (ti b)), some (.v (csD c)), some (.v (.int c.dr)), some (.v (.int c.ad)), some (.v (.int c.ch)), some (.o (rows.map lsD)), x7, x8, x9, x10, x11]
def eRows (c : Cst) (a b : List Int) (i : Nat) : List (List Int) := (List.range i).map fun i => rowE (eD c a b i) (b.length + 1)
theorem eRows_succ (c : Cst) (a b : List Int) (i : Nat) : eRows c a b (i + 1) = eRows c a b i ++ [rowE (eD c a b i) (b.length + 1)] := by unfold eRows; rw [List.range_succ, List.map_append]; rfl
theorem et_inner {c : Cst} {a b : List Int} (hb : b.length ≤ 8) (i : Nat) (hi : i < a.length) (x9 x10 x11 : Option Vl) : ∃ y9 y10 y11, G.edit_table_3l1 (tEnv c a b (eRows c a b (i + 1)) (some (.v (.int (sg a i)))) (some (.o ((rowE (eD c a b (i + 1)) 1).map .int))) x9 x10 x11) = .nxt (tEnv c a b (eRows c a b (i + 1)) (some (.v (.int (sg a i)))) (some (.o ((rowE (eD c a b (i + 1)) (b.length + 1)).map .int))) y9 y10 y11) := by
  obtain ⟨e', h1, y9, y10, y11, rfl⟩ := forN (g := gT [(gN 9), (gN 10)]) (b := sSeq G.edit_table_3l1l0 G.edit_table_3l1l1) (fun (j : Nat) => .tup [.int (j : Int), .int (sg b j)]) (fun j e => ∃ y9 y10 y11, e = tEnv c a b (eRows c a b (i + 1)) (some (.v (.int (sg a i)))) (some (.o ((rowE (eD c a b (i + 1)) (j + 1)).map .int))) y9 y10 y11) b.length (e := tEnv c a b (eRows c a b (i + 1)) (some (.v (.int (sg a i)))) (some (.o ((rowE (eD c a b (i + 1)) 1).map .int))) x9 x10 x11) ⟨x9, x10, x11, rfl⟩ (by
    rintro j e hlen ⟨y9, y10, y11, rfl⟩
    have r1 : oIx (.o ((eRows c a b (i + 1)).map lsD)) (.v (.int (-1))) = some (.v (lsD (rowE (eD c a b i) (b.length + 1)))) := by
      rw [eRows_succ, List.map_append]
      exact ix_neg1 _ _
    have r2 := lsD_ix (rowE (eD c a b i) (b.length + 1)) (rowE_get (eD c a b i) (show j < b.length + 1 by omega))
    have r3 := lsD_ix (rowE (eD c a b i) (b.length + 1)) (rowE_get (eD c a b i) (show j + 1 < b.length + 1 by omega))
    have r4 : oIx (.o ((rowE (eD c a b (i + 1)) (j + 1)).map .int)) (.v (.int (-1))) = some (.v (.int (eD c a b (i + 1) j))) := by
      rw [rowE_succ, List.map_append]
      exact ix_neg1 _ _
    have hs : (if sg a i = sg b j then (0 : Int) else c.ch) = stp c a b i j := rfl
    have hlim : ((rowE (eD c a b (i + 1)) (j + 1)).map D.int).length < lim := by rw [List.length_map, rowE_len]; unfold lim; omega
    refine ⟨tEnv c a b (eRows c a b (i + 1)) (some (.v (.int (sg a i)))) (some (.o ((rowE (eD c a b (i + 1)) (j + 1)).map .int))) (some (.v (.int (j : Int)))) (some (.v (.int (sg b j)))) y11, tEnv c a b (eRows c a b (i + 1)) (some (.v (.int (sg a i)))) (some (.o ((rowE (eD c a b (i + 1)) (j + 1 + 1)).map .int))) (some (.v (.int (j : Int)))) (some (.v (.int (sg b j)))) (some (.v (.int (eD c a b i j + stp c a b i j)))), rfl, ?_, _, _, _, rfl⟩
    · have g0 : G.edit_table_3l1l0 (tEnv c a b (eRows c a b (i + 1)) (some (.v (.int (sg a i)))) (some (.o ((rowE (eD c a b (i + 1)) (j + 1)).map .int))) (some (.v (.int (j : Int)))) (some (.v (.int (sg b j)))) y11) = .nxt (tEnv c a b (eRows c a b (i + 1)) (some (.v (.int (sg a i)))) (some (.o ((rowE (eD c a b (i + 1)) (j + 1)).map .int))) (some (.v (.int (j : Int)))) (some (.v (.int (sg b j)))) (some (.v (.int (eD c a b i j + stp c a b i j))))) := by
        unfold G.edit_table_3l1l0 tEnv stp
        generalize (eRows c a b (i + 1)).map lsD = R at *
        generalize lsD (rowE (eD c a b i) (b.length + 1)) = R1 at *
        generalize (rowE (eD c a b (i + 1)) (j + 1)).map D.int = R2 at *
        have hneg : oNeg (.v (.int 1)) = some (.v (.int (-1))) := rfl
        by_cases h : sg a i = sg b j
        · simp [r1, r2, h, hneg]
        · simp [r1, r2, h, hneg]
      rw [seq_nxt g0]
      unfold G.edit_table_3l1l1 tEnv
      rw [rowE_succ (eD c a b (i + 1)) (j + 1), List.map_append]
      have e0 : eD c a b (i + 1) (j + 1) = min (eD c a b i (j + 1) + c.dr) (min (eD c a b (i + 1) j + c.ad) (eD c a b i j + stp c a b i j)) := eD_ss i j
      have hj1 : (((j + 1 : Nat) : Int)) = (j : Int) + 1 := by omega
      rw [hj1] at r3
      rw [e0]
      have hneg : oNeg (.v (.int 1)) = some (.v (.int (-1))) := rfl
      generalize (eRows c a b (i + 1)).map lsD = R at *
      generalize lsD (rowE (eD c a b i) (b.length + 1)) = R1 at *
      generalize (rowE (eD c a b (i + 1)) (j + 1)).map D.int = R2 at *
      generalize eD c a b i j + stp c a b i j = u at *
      simp [r1, r3, r4, hneg, hlim, eArgs, minI3])
  refine ⟨y9, y10, y11, ?_⟩
  unfold G.edit_table_3l1
  have hit : iEnum (eV 1) (tEnv c a b (eRows c a b (i + 1)) (some (.v (.int (sg a i)))) (some (.o ((rowE (eD c a b (i + 1)) 1).map .int))) x9 x10 x11) = .ok ((List.range b.length).map fun (j : Nat) => .tup [.int (j : Int), .int (sg b j)]) (tEnv c a b (eRows c a b (i + 1)) (some (.v (.int (sg a i)))) (some (.o ((rowE (eD c a b (i + 1)) 1).map .int))) x9 x10 x11) := by
    rw [← enum_ti_sg b]
    unfold tEnv
    simp
  rw [s_sFor, hit]
  exact h1
theorem mulOk_nat {j : Nat} {k : Int} (h : j < 2 ^ 32) : mulOk (j : Int) k = true := by
  unfold mulOk
  have : decide ((j : Int).natAbs < 2 ^ 64) = true := by
    rw [decide_eq_true_eq, Int.natAbs_natCast]
    omega
  rw [this]
  rfl
theorem eT_eq (c : Cst) (a b : List Int) : eT c a b = eRows c a b (a.length + 1) := rfl
theorem edit_table_ok {c : Cst} {a b : List Int} (ha : a.length ≤ 8) (hb : b.length ≤ 8) (hc : c.Ps) (hs : c.ad ≤ 1000) : G.F_edit_table [.v (ti a), .v (ti b), .v (csD c)] = .ok (.v (tt (eT c a b))) [] := by
  have hk := check_words_ok ha hb hc
  have h0 : G.edit_table_0 [some (.v (ti a)), some (.v (ti b)), some (.v (csD c)), none, none, none, none, none, none, none, none, none] = .nxt [some (.v (ti a)), some (.v (ti b)), some (.v (csD c)), none, none, none, none, none, none, none, none, none] := by
    unfold G.edit_table_0
    generalize ti a = A at *
    generalize ti b = B at *
    generalize csD c = Z at *
    simp [hk]
  have h1 : G.edit_table_1 [some (.v (ti a)), some (.v (ti b)), some (.v (csD c)), none, none, none, none, none, none, none, none, none] = .nxt [some (.v (ti a)), some (.v (ti b)), some (.v (csD c)), some (.v (.int c.dr)), some (.v (.int c.ad)), some (.v (.int c.ch)), none, none, none, none, none, none] := by
    unfold G.edit_table_1 csD
    generalize ti a = A at *
    generalize ti b = B at *
    simp
  have h2 : G.edit_table_2 [some (.v (ti a)), some (.v (ti b)), some (.v (csD c)), some (.v (.int c.dr)), some (.v (.int c.ad)), some (.v (.int c.ch)), none, none, none, none, none, none] = .nxt (tEnv c a b (eRows c a b 1) none none none none none) := by
    have q := comp0 (vs := [9]) (it := iR1 (e2 oAdd (e1 oLen (eP 1)) (eC (.int 1)))) (g := gN 9) (x := e2 oMul (eV 9) (eV 4)) (e := [some (.v (ti a)), some (.v (ti b)), some (.v (csD c)), some (.v (.int c.dr)), some (.v (.int c.ad)), some (.v (.int c.ch)), none, none, none, none, none, none]) (e1 := [some (.v (ti a)), some (.v (ti b)), some (.v (csD c)), some (.v (.int c.dr)), some (.v (.int c.ad)), some (.v (.int c.ch)), none, none, none, none, none, none]) (List.range (b.length + 1)) nD (fun (j : Nat) => .int ((j : Int) * c.ad)) _ (fun (j : Nat) => [some (.v (ti a)), some (.v (ti b)), some (.v (csD c)), some (.v (.int c.dr)), some (.v (.int c.ad)), some (.v (.int c.ch)), none, none, none, some (.v (.int (j : Int))), none, none]) (r1_e (n := b.length + 1) (by have := ti_len' b; simp [this, -len_v]) (by omega)) (by rw [List.length_range]; unfold lim; omega) rfl rfl (fun j hj => by
      have hj' := List.mem_range.mp hj
      have hm : mulOk (j : Int) c.ad = true := mulOk_nat (by omega)
      exact ⟨rfl, ⟨.v (.int ((j : Int) * c.ad)), by simp [oMul, hm], rfl⟩, rfl⟩)
    have e : (List.range (b.length + 1)).map (fun (j : Nat) => D.int ((j : Int) * c.ad)) = (rowE (eD c a b 0) (b.length + 1)).map .int := by
      unfold rowE
      rw [List.map_map]
      rfl
    rw [e] at q
    unfold G.edit_table_2 tEnv
    have er1 : (eRows c a b 1).map lsD = [.lst ((rowE (eD c a b 0) (b.length + 1)).map .int)] := rfl
    rw [er1]
    clear er1
    generalize eComp [9] (iR1 (e2 oAdd (e1 oLen (eP 1)) (eC (.int 1)))) (gN 9) tYes (e2 oMul (eV 9) (eV 4)) = Y at q ⊢
    generalize (rowE (eD c a b 0) (b.length + 1)).map D.int = R at *
    simp [q]
  obtain ⟨e', h3, x7, x8, x9, x10, x11, rfl, hx8⟩ := forN (g := gN 7) (b := G.edit_table_3L1) (fun i => D.int (sg a i)) (fun i e => ∃ x7 x8 x9 x10 x11, e = tEnv c a b (eRows c a b (i + 1)) x7 x8 x9 x10 x11 ∧ (x8 = none ∨ ∃ d, x8 = some (.v d))) a.length (e := tEnv c a b (eRows c a b 1) none none none none none) ⟨none, none, none, none, none, rfl, .inl rfl⟩ (by
    rintro i e hi ⟨x7, x8, x9, x10, x11, rfl, _⟩
    have g0 : G.edit_table_3l0 (tEnv c a b (eRows c a b (i + 1)) (some (.v (.int (sg a i)))) x8 x9 x10 x11) = .nxt (tEnv c a b (eRows c a b (i + 1)) (some (.v (.int (sg a i)))) (some (.o ((rowE (eD c a b (i + 1)) 1).map .int))) x9 x10 x11) := by
      have r1 : oIx (.o ((eRows c a b (i + 1)).map lsD)) (.v (.int (-1))) = some (.v (lsD (rowE (eD c a b i) (b.length + 1)))) := by
        rw [eRows_succ, List.map_append]
        exact ix_neg1 _ _
      have r2 := lsD_ix (rowE (eD c a b i) (b.length + 1)) (rowE_get (eD c a b i) (show 0 < b.length + 1 by omega))
      have e0 : ((0 : Nat) : Int) = 0 := rfl
      rw [e0] at r2
      have hneg : oNeg (.v (.int 1)) = some (.v (.int (-1))) := rfl
      have er : (rowE (eD c a b (i + 1)) 1).map D.int = [.int (eD c a b i 0 + c.dr)] := rfl
      unfold G.edit_table_3l0 tEnv
      rw [er]
      generalize (eRows c a b (i + 1)).map lsD = R at *
      generalize lsD (rowE (eD c a b i) (b.length + 1)) = R1 at *
      simp [r1, r2, hneg]
    obtain ⟨y9, y10, y11, g1⟩ := et_inner (c := c) hb i hi x9 x10 x11
    have hlim : ((eRows c a b (i + 1)).map lsD).length < lim := by
      have : (eRows c a b (i + 1)).length = i + 1 := by simp [eRows]
      rw [List.length_map, this]; unfold lim; omega
    refine ⟨tEnv c a b (eRows c a b (i + 1)) (some (.v (.int (sg a i)))) x8 x9 x10 x11, tEnv c a b (eRows c a b (i + 1 + 1)) (some (.v (.int (sg a i)))) (some (.v (lsD (rowE (eD c a b (i + 1)) (b.length + 1))))) y9 y10 y11, rfl, ?_, _, _, _, _, _, rfl, .inr ⟨_, rfl⟩⟩
    unfold G.edit_table_3L1
    rw [seq_nxt g0, seq_nxt g1]
    unfold tEnv
    rw [eRows_succ c a b (i + 1), List.map_append]
    have el : ([rowE (eD c a b (i + 1)) (b.length + 1)]).map lsD = [lsD (rowE (eD c a b (i + 1)) (b.length + 1))] := rfl
    rw [el]
    unfold lsD at hlim ⊢
    generalize (eRows c a b (i + 1)).map (fun r => D.lst (r.map .int)) = R at *
    generalize (rowE (eD c a b (i + 1)) (b.length + 1)).map D.int = R1 at *
    simp [hlim])
  have h3' : G.edit_table_3 (tEnv c a b (eRows c a b 1) none none none none none) = .nxt (tEnv c a b (eT c a b) x7 x8 x9 x10 x11) := by
    unfold G.edit_table_3
    have hit : iL (eV 0) (tEnv c a b (eRows c a b 1) none none none none none) = .ok ((List.range a.length).map fun i => D.int (sg a i)) (tEnv c a b (eRows c a b 1) none none none none none) := by
      have : (List.range a.length).map (fun i => D.int (sg a i)) = a.map .int := by
        apply List.ext_getElem?
        intro k
        by_cases hk : k < a.length
        · simp [hk, sg, List.getD]
        · rw [List.getElem?_eq_none (by simp; omega), List.getElem?_eq_none (by simp; omega)]
      rw [this]
      unfold tEnv
      simp
    rw [s_sFor, hit]
    exact h3
  let e6 (y8 : Option Vl) : En := [some (.v (ti a)), some (.v (ti b)), some (.v (csD c)), some (.v (.int c.dr)), some (.v (.int c.ad)), some (.v (.int c.ch)), some (.v (.lst ((eT c a b).map lsD))), x7, y8, x9, x10, x11]
  have q := comp0 (vs := [8]) (it := iL (eV 6)) (g := gN 8) (x := e1 oTuple (eP 8)) (e := tEnv c a b (eT c a b) x7 x8 x9 x10 x11) (e1 := e6 x8) (eT c a b) lsD ti (e6 none) (fun r => e6 (some (.v (lsD r)))) (by
    show iL _ [some (.v (ti a)), some (.v (ti b)), some (.v (csD c)), some (.v (.int c.dr)), some (.v (.int c.ad)), some (.v (.int c.ch)), some (.o ((eT c a b).map lsD)), x7, x8, x9, x10, x11] = .ok _ [some (.v (ti a)), some (.v (ti b)), some (.v (csD c)), some (.v (.int c.dr)), some (.v (.int c.ad)), some (.v (.int c.ch)), some (.v (.lst ((eT c a b).map lsD))), x7, x8, x9, x10, x11]
    simp) (by simp [eT, lim]; omega) rfl (by rcases hx8 with rfl | ⟨d, rfl⟩ <;> rfl) (fun r hr => ⟨rfl, ⟨.v (ti r), by
      show e1 _ _ [some (.v (ti a)), some (.v (ti b)), some (.v (csD c)), some (.v (.int c.dr)), some (.v (.int c.ad)), some (.v (.int c.ch)), some (.v (.lst ((eT c a b).map lsD))), x7, some (.v (lsD r)), x9, x10, x11] = .ok _ [some (.v (ti a)), some (.v (ti b)), some (.v (csD c)), some (.v (.int c.dr)), some (.v (.int c.ad)), some (.v (.int c.ch)), some (.v (.lst ((eT c a b).map lsD))), x7, some (.v (lsD r)), x9, x10, x11]
      have : oTuple (.v (lsD r)) = some (.v (ti r)) := rfl
      simp [this], rfl⟩, rfl⟩)
  have ht : oTuple (.o ((eT c a b).map ti)) = some (.v (tt (eT c a b))) := rfl
  have h4 : G.edit_table_4 (tEnv c a b (eT c a b) x7 x8 x9 x10 x11) = .ret (.v (tt (eT c a b))) (e6 x8) := by
    unfold G.edit_table_4
    generalize eComp [8] (iL (eV 6)) (gN 8) tYes (e1 oTuple (eP 8)) = Y at q ⊢
    generalize (eT c a b).map ti = R at *
    generalize tt (eT c a b) = R2 at *
    generalize tEnv c a b (eT c a b) x7 x8 x9 x10 x11 = e0 at *
    generalize e6 x8 = e1' at *
    simp [q, ht]
  refine run_of (os := []) (e := e6 x8) ?_ rfl
  unfold G.c_edit_table
  exact (seq_nxt h0).trans ((seq_nxt h1).trans ((seq_nxt h2).trans ((seq_nxt h3').trans h4)))

theorem seq_ret'' {a b : C} {e e' : En} {x : Vl} (h : a e = .ret x e') : sSeq a b e = .ret x e' := by
  unfold sSeq
  rw [h]
end Fx
end

section
set_option linter.all false
set_option maxRecDepth 10000
/-! Hc: the script. -/
namespace Fx
inductive Wd4 where
  | keep | change | drop | add
  deriving DecidableEq
def Wd4.s : Wd4 → String
  | .keep => "keep"
  | .change => "change"
  | .drop => "drop"
  | .add => "add"
def wL (l : List Wd4) : List D := l.map fun w => D.str w.s
section
variable (c : Cst) (a b : List Int)
/-- the last word of a script from beginnings -/
def lastW (i j : Nat) : Wd4 :=
  if 0 < i ∧ 0 < j ∧ sg a (i - 1) = sg b (j - 1) ∧ eD c a b (i - 1) (j - 1) = eD c a b i j then .keep
  else if 0 < i ∧ 0 < j ∧ eD c a b (i - 1) (j - 1) + c.ch = eD c a b i j then .change
  else if 0 < i ∧ eD c a b (i - 1) j + c.dr = eD c a b i j then .drop
  else .add
def pI (w : Wd4) (i : Nat) : Nat := match w with
  | .add => i
  | _ => i - 1
def pJ (w : Wd4) (j : Nat) : Nat := match w with
  | .drop => j
  | _ => j - 1
end
/-- what a word does: counts and cost -/
def runW (c : Cst) (a b : List Int) (st : Option (Nat × Nat × Int)) (w : Wd4) : Option (Nat × Nat × Int) := match st with
  | none => none
  | some (i, j, k) => match w with
    | .keep => if i < a.length ∧ j < b.length ∧ sg a i = sg b j then some (i + 1, j + 1, k) else none
    | .change => if i < a.length ∧ j < b.length then some (i + 1, j + 1, k + c.ch) else none
    | .drop => some (i + 1, j, k + c.dr)
    | .add => some (i, j + 1, k + c.ad)
theorem run_keep {c : Cst} {a b : List Int} {i j : Nat} {k : Int} (h1 : i < a.length) (h2 : j < b.length) (h3 : sg a i = sg b j) : runW c a b (some (i, j, k)) .keep = some (i + 1, j + 1, k) := by simp [runW, h1, h2, h3]
theorem run_change {c : Cst} {a b : List Int} {i j : Nat} {k : Int} (h1 : i < a.length) (h2 : j < b.length) : runW c a b (some (i, j, k)) .change = some (i + 1, j + 1, k + c.ch) := by simp [runW, h1, h2]
theorem last_ok {c : Cst} (h : c.Ps) {a b : List Int} {i j : Nat} (hi : i ≤ a.length) (hj : j ≤ b.length) (h0 : 0 < i + j) :
    (pI (lastW c a b i j) i + pJ (lastW c a b i j) j < i + j) ∧ pI (lastW c a b i j) i ≤ i ∧ pJ (lastW c a b i j) j ≤ j ∧ (lastW c a b i j = .add → 0 < j) ∧ (lastW c a b i j = .drop → 0 < i) ∧ (lastW c a b i j ≠ .add → 0 < i) ∧ (lastW c a b i j ≠ .drop → 0 < j) ∧
    runW c a b (some (pI (lastW c a b i j) i, pJ (lastW c a b i j) j, eD c a b (pI (lastW c a b i j) i) (pJ (lastW c a b i j) j))) (lastW c a b i j) = some (i, j, eD c a b i j) := by
  have hdr := h.dr
  have had := h.ad
  have hch := h.ch
  unfold lastW
  by_cases h1 : 0 < i ∧ 0 < j ∧ sg a (i - 1) = sg b (j - 1) ∧ eD c a b (i - 1) (j - 1) = eD c a b i j
  · rw [if_pos h1]
    refine ⟨by simp only [pI, pJ]; omega, by simp only [pI]; omega, by simp only [pJ]; omega, by simp, by simp, fun _ => h1.1, fun _ => h1.2.1, ?_⟩
    show runW c a b (some (i - 1, j - 1, eD c a b (i - 1) (j - 1))) .keep = _
    rw [run_keep (by omega) (by omega) h1.2.2.1, h1.2.2.2]
    have e1 : i - 1 + 1 = i := by omega
    have e2 : j - 1 + 1 = j := by omega
    rw [e1, e2]
  · rw [if_neg h1]
    by_cases h2 : 0 < i ∧ 0 < j ∧ eD c a b (i - 1) (j - 1) + c.ch = eD c a b i j
    · rw [if_pos h2]
      refine ⟨by simp only [pI, pJ]; omega, by simp only [pI]; omega, by simp only [pJ]; omega, by simp, by simp, fun _ => h2.1, fun _ => h2.2.1, ?_⟩
      show runW c a b (some (i - 1, j - 1, eD c a b (i - 1) (j - 1))) .change = _
      rw [run_change (by omega) (by omega), h2.2.2]
      have e1 : i - 1 + 1 = i := by omega
      have e2 : j - 1 + 1 = j := by omega
      rw [e1, e2]
    · rw [if_neg h2]
      by_cases h3 : 0 < i ∧ eD c a b (i - 1) j + c.dr = eD c a b i j
      · rw [if_pos h3]
        refine ⟨by simp only [pI, pJ]; omega, by simp only [pI]; omega, by simp only [pJ]; omega, by simp, fun _ => h3.1, fun _ => h3.1, by simp, ?_⟩
        show some (i - 1 + 1, j, eD c a b (i - 1) j + c.dr) = _
        rw [h3.2]
        have e1 : i - 1 + 1 = i := by omega
        rw [e1]
      · rw [if_neg h3]
        have hj0 : 0 < j := by
          rcases Nat.eq_zero_or_pos j with z | z
          · subst z
            have hi0 : 0 < i := by omega
            obtain ⟨i', rfl⟩ : ∃ i', i = i' + 1 := ⟨i - 1, by omega⟩
            exact absurd ⟨hi0, by rw [eD_s0]; rfl⟩ h3
          · exact z
        obtain ⟨j', rfl⟩ : ∃ j', j = j' + 1 := ⟨j - 1, by omega⟩
        have hadd : eD c a b i j' + c.ad = eD c a b i (j' + 1) := by
          cases i with
          | zero => rw [eD_0s]
          | succ i =>
            have e := eD_ss (c := c) (a := a) (b := b) i j'
            have n3 : ¬ eD c a b i (j' + 1) + c.dr = eD c a b (i + 1) (j' + 1) := fun z => h3 ⟨by omega, z⟩
            have n12 : ¬ eD c a b i j' + stp c a b i j' = eD c a b (i + 1) (j' + 1) := fun z => by
              unfold stp at z
              by_cases es : sg a i = sg b j'
              · rw [if_pos es] at z
                exact h1 ⟨by omega, by omega, es, by simpa using z⟩
              · rw [if_neg es] at z
                exact h2 ⟨by omega, by omega, z⟩
            omega
        refine ⟨by simp only [pI, pJ]; omega, by simp only [pI]; omega, by simp only [pJ]; omega, fun _ => by omega, by simp, by simp, fun _ => by omega, ?_⟩
        show some (i, j' + 1 - 1 + 1, eD c a b i (j' + 1 - 1) + c.ad) = _
        have e2 : j' + 1 - 1 + 1 = j' + 1 := by omega
        rw [e2]
        have e3 : j' + 1 - 1 = j' := by omega
        rw [e3, hadd]
/-- the script from beginnings, the last word first -/
def scrR (c : Cst) (a b : List Int) : Nat → Nat → Nat → List Wd4
  | 0, _, _ => []
  | m + 1, i, j => if i + j = 0 then [] else lastW c a b i j :: scrR c a b m (pI (lastW c a b i j) i) (pJ (lastW c a b i j) j)
theorem scr_run {c : Cst} (h : c.Ps) {a b : List Int} : ∀ (m i j : Nat), i + j ≤ m → i ≤ a.length → j ≤ b.length → (scrR c a b m i j).reverse.foldl (runW c a b) (some (0, 0, 0)) = some (i, j, eD c a b i j) ∧ (scrR c a b m i j).length ≤ i + j
  | 0, i, j, hm, hi, hj => by
    have e1 : i = 0 := by omega
    have e2 : j = 0 := by omega
    subst e1 e2
    simp [scrR, eD_00]
  | m + 1, i, j, hm, hi, hj => by
    unfold scrR
    by_cases h0 : i + j = 0
    · rw [if_pos h0]
      have e1 : i = 0 := by omega
      have e2 : j = 0 := by omega
      subst e1 e2
      simp [eD_00]
    · rw [if_neg h0]
      obtain ⟨q1, q2, q3, _, _, _, _, q4⟩ := last_ok h hi hj (by omega)
      obtain ⟨r1, r2⟩ := scr_run h m _ _ (by omega) (by omega : pI (lastW c a b i j) i ≤ a.length) (by omega : pJ (lastW c a b i j) j ≤ b.length)
      rw [List.reverse_cons, List.foldl_append, r1]
      refine ⟨q4, ?_⟩
      rw [List.length_cons]
      omega
theorem scrR_succ (c : Cst) (a b : List Int) (m i j : Nat) (h : i + j ≠ 0) : scrR c a b (m + 1) i j = lastW c a b i j :: scrR c a b m (pI (lastW c a b i j) i) (pJ (lastW c a b i j) j) := by
  conv => lhs; unfold scrR
  rw [if_neg h]
theorem scrR_mono {c : Cst} (h : c.Ps) {a b : List Int} : ∀ (m i j : Nat), i + j ≤ m → i ≤ a.length → j ≤ b.length → scrR c a b m i j = scrR c a b (i + j) i j
  | 0, i, j, hm, _, _ => by
    have : i + j = 0 := by omega
    rw [this]
  | m + 1, i, j, hm, hi, hj => by
    by_cases h0 : i + j = 0
    · rw [h0]
      unfold scrR
      rw [if_pos h0]
    · obtain ⟨q1, q2, q3, _⟩ := last_ok h hi hj (by omega)
      rw [scrR_succ _ _ _ _ _ _ h0]
      obtain ⟨t, ht⟩ : ∃ t, i + j = t + 1 := ⟨i + j - 1, by omega⟩
      rw [ht, scrR_succ _ _ _ _ _ _ h0]
      rw [scrR_mono h m _ _ (by omega) (by omega) (by omega), scrR_mono h t _ _ (by omega) (by omega) (by omega)]
/-! ### edit_paper -/
theorem eT_sq (c : Cst) (a b : List Int) (i : Nat) (hi : i ≤ a.length) : oIx (.v (tt (eT c a b))) (.v (.int (i : Int))) = some (.v (ti (rowE (eD c a b i) (b.length + 1)))) := by
  rw [ix_tt]
  have : (eT c a b)[i]? = some (rowE (eD c a b i) (b.length + 1)) := by
    unfold eT
    rw [List.getElem?_map, List.getElem?_range (by omega)]
    rfl
  rw [this]
  rfl
theorem eT_ix (c : Cst) (a b : List Int) (i j : Nat) (hj : j ≤ b.length) : oIx (.v (ti (rowE (eD c a b i) (b.length + 1)))) (.v (.int (j : Int))) = some (.v (.int (eD c a b i j))) := by
  rw [ix_ti, rowE_get _ (by omega)]
  rfl
theorem ti_sg (a : List Int) {i : Nat} (h : i < a.length) : oIx (.v (ti a)) (.v (.int (i : Int))) = some (.v (.int (sg a i))) := by
  rw [ix_ti, List.getElem?_eq_getElem h]
  simp [sg, List.getD, h]
theorem sub1 {i : Nat} (h : 0 < i) : (i : Int) - 1 = ((i - 1 : Nat) : Int) := by omega
def epE (c : Cst) (a b : List Int) (i j : Nat) (ws : List Wd4) (x10 : Option Vl) : En :=
  [some (.v (ti a)), some (.v (ti b)), some (.v (csD c)), some (.v (tt (eT c a b))), some (.v (.int c.dr)), some (.v (.int c.ad)), some (.v (.int c.ch)), some (.v (.int (i : Int))), some (.v (.int (j : Int))), some (.o (wL ws)), x10]
theorem ep_turn {c : Cst} (h : c.Ps) {a b : List Int} (ha : a.length ≤ 8) (hb : b.length ≤ 8) {i j : Nat} (hi : i ≤ a.length) (hj : j ≤ b.length) (h0 : 0 < i + j) (ws : List Wd4) (hw : ws.length ≤ 100) (x10 : Option Vl) :
    ∃ y10, sSeq G.edit_paper_4l0 G.edit_paper_4l1 (epE c a b i j ws x10) = .nxt (epE c a b (pI (lastW c a b i j) i) (pJ (lastW c a b i j) j) (ws ++ [lastW c a b i j]) y10) := by
  have hlim : (wL ws).length < lim := by unfold wL lim; rw [List.length_map]; omega
  have r1 := eT_sq c a b i hi
  have r2 := eT_ix c a b i j hj
  have s0 : G.edit_paper_4l0 (epE c a b i j ws x10) = .nxt (epE c a b i j ws (some (.v (.int (eD c a b i j))))) := by
    unfold G.edit_paper_4l0 epE
    generalize tt (eT c a b) = T at *
    generalize ti (rowE (eD c a b i) (b.length + 1)) = R at *
    simp [r1, r2]
  refine ⟨some (.v (.int (eD c a b i j))), ?_⟩
  rw [seq_nxt s0]
  have hwl : ∀ w, wL (ws ++ [w]) = wL ws ++ [D.str w.s] := fun w => by simp [wL]
  have p1 : decide ((0 : Int) < (i : Int)) = decide (0 < i) := by rw [Bool.eq_iff_iff, decide_eq_true_eq, decide_eq_true_eq]; omega
  have p2 : decide ((0 : Int) < (j : Int)) = decide (0 < j) := by rw [Bool.eq_iff_iff, decide_eq_true_eq, decide_eq_true_eq]; omega
  -- the first test
  let e0 := epE c a b i j ws (some (.v (.int (eD c a b i j))))
  have t1 : G.edit_paper_4l1t1 e0 = .ok (decide (0 < i ∧ 0 < j ∧ sg a (i - 1) = sg b (j - 1) ∧ eD c a b (i - 1) (j - 1) = eD c a b i j)) e0 := by
    show G.edit_paper_4l1t1 (epE c a b i j ws (some (.v (.int (eD c a b i j))))) = .ok _ (epE c a b i j ws (some (.v (.int (eD c a b i j)))))
    unfold G.edit_paper_4l1t1 epE
    by_cases hi0 : 0 < i
    · by_cases hj0 : 0 < j
      · have q1 := ti_sg a (show i - 1 < a.length by omega)
        have q2 := ti_sg b (show j - 1 < b.length by omega)
        have q3 := eT_sq c a b (i - 1) (by omega)
        have q4 := eT_ix c a b (i - 1) (j - 1) (by omega)
        rw [← sub1 hi0] at q1 q3
        rw [← sub1 hj0] at q2 q4
        generalize tt (eT c a b) = T at *
        generalize ti (rowE (eD c a b (i - 1)) (b.length + 1)) = R at *
        generalize ti a = A at *
        generalize ti b = B at *
        generalize eD c a b (i - 1) (j - 1) = u at *
        generalize eD c a b i j = v at *
        by_cases hs : sg a (i - 1) = sg b (j - 1)
        · simp [p1, p2, hi0, hj0, q1, q2, q3, q4, hs]
        · simp [p1, p2, hi0, hj0, q1, q2, q3, q4, hs]
      · simp [p1, p2, hi0, hj0]
    · simp [p1, hi0]
  have t2 : G.edit_paper_4l1b0t1 e0 = .ok (decide (0 < i ∧ 0 < j ∧ eD c a b (i - 1) (j - 1) + c.ch = eD c a b i j)) e0 := by
    show G.edit_paper_4l1b0t1 (epE c a b i j ws (some (.v (.int (eD c a b i j))))) = .ok _ (epE c a b i j ws (some (.v (.int (eD c a b i j)))))
    unfold G.edit_paper_4l1b0t1 epE
    by_cases hi0 : 0 < i
    · by_cases hj0 : 0 < j
      · have q3 := eT_sq c a b (i - 1) (by omega)
        have q4 := eT_ix c a b (i - 1) (j - 1) (by omega)
        rw [← sub1 hi0] at q3
        rw [← sub1 hj0] at q4
        generalize tt (eT c a b) = T at *
        generalize ti (rowE (eD c a b (i - 1)) (b.length + 1)) = R at *
        generalize eD c a b (i - 1) (j - 1) = u at *
        generalize eD c a b i j = v at *
        simp [p1, p2, hi0, hj0, q3, q4]
      · simp [p1, p2, hi0, hj0]
    · simp [p1, hi0]
  have t3 : G.edit_paper_4l1b0b0t1 e0 = .ok (decide (0 < i ∧ eD c a b (i - 1) j + c.dr = eD c a b i j)) e0 := by
    show G.edit_paper_4l1b0b0t1 (epE c a b i j ws (some (.v (.int (eD c a b i j))))) = .ok _ (epE c a b i j ws (some (.v (.int (eD c a b i j)))))
    unfold G.edit_paper_4l1b0b0t1 epE
    by_cases hi0 : 0 < i
    · have q3 := eT_sq c a b (i - 1) (by omega)
      have q4 := eT_ix c a b (i - 1) j (by omega)
      rw [← sub1 hi0] at q3
      generalize tt (eT c a b) = T at *
      generalize ti (rowE (eD c a b (i - 1)) (b.length + 1)) = R at *
      generalize eD c a b (i - 1) j = u at *
      generalize eD c a b i j = v at *
      simp [p1, hi0, q3, q4]
    · simp [p1, hi0]
  obtain ⟨_, _, _, _, _, m1, m2, _⟩ := last_ok h hi hj h0
  show G.edit_paper_4l1 e0 = _
  unfold G.edit_paper_4l1
  rw [s_sIf, t1]
  unfold lastW at m1 m2 ⊢
  by_cases h1 : 0 < i ∧ 0 < j ∧ sg a (i - 1) = sg b (j - 1) ∧ eD c a b (i - 1) (j - 1) = eD c a b i j
  · simp only [if_pos h1, decide_eq_true h1, if_true]
    unfold G.edit_paper_4l1a0 G.edit_paper_4l1a1
    show _ = Out.nxt (epE c a b (i - 1) (j - 1) _ _)
    show sSeq _ _ (epE c a b i j ws (some (.v (.int (eD c a b i j))))) = _
    unfold epE
    rw [hwl, ← sub1 h1.1, ← sub1 h1.2.1]
    generalize wL ws = W at *
    simp [hlim, Wd4.s]
  · simp only [if_neg h1, decide_eq_false h1, Bool.false_eq_true, if_false] at m1 m2 ⊢
    unfold G.edit_paper_4l1b0
    rw [s_sIf, t2]
    by_cases h2 : 0 < i ∧ 0 < j ∧ eD c a b (i - 1) (j - 1) + c.ch = eD c a b i j
    · simp only [if_pos h2, decide_eq_true h2, if_true]
      unfold G.edit_paper_4l1b0a0 G.edit_paper_4l1b0a1
      show sSeq _ _ (epE c a b i j ws (some (.v (.int (eD c a b i j))))) = Out.nxt (epE c a b (i - 1) (j - 1) _ _)
      unfold epE
      rw [hwl, ← sub1 h2.1, ← sub1 h2.2.1]
      generalize wL ws = W at *
      simp [hlim, Wd4.s]
    · simp only [if_neg h2, decide_eq_false h2, Bool.false_eq_true, if_false] at m1 m2 ⊢
      unfold G.edit_paper_4l1b0b0
      rw [s_sIf, t3]
      by_cases h3 : 0 < i ∧ eD c a b (i - 1) j + c.dr = eD c a b i j
      · simp only [if_pos h3, decide_eq_true h3, if_true]
        unfold G.edit_paper_4l1b0b0a0 G.edit_paper_4l1b0b0a1
        show sSeq _ _ (epE c a b i j ws (some (.v (.int (eD c a b i j))))) = Out.nxt (epE c a b (i - 1) j _ _)
        unfold epE
        rw [hwl, ← sub1 h3.1]
        generalize wL ws = W at *
        simp [hlim, Wd4.s]
      · simp only [if_neg h3, decide_eq_false h3, Bool.false_eq_true, if_false] at m1 m2 ⊢
        have hj0 : 0 < j := m2 (by simp)
        unfold G.edit_paper_4l1b0b0b0 G.edit_paper_4l1b0b0b1
        show sSeq _ _ (epE c a b i j ws (some (.v (.int (eD c a b i j))))) = Out.nxt (epE c a b i (j - 1) _ _)
        unfold epE
        rw [hwl, ← sub1 hj0]
        generalize wL ws = W at *
        simp [hlim, Wd4.s]
def script (c : Cst) (a b : List Int) : List Wd4 := (scrR c a b (a.length + b.length) a.length b.length).reverse
def papE (c : Cst) (a b : List Int) : D := .tup [.int (eC' c a b), .tup (wL (script c a b)), tt (eT c a b)]
theorem neg1_tt (c : Cst) (a b : List Int) : oIx (.v (tt (eT c a b))) (.v (.int (-1))) = some (.v (ti (rowE (eD c a b a.length) (b.length + 1)))) := by
  unfold tt
  rw [eT_eq, eRows_succ, List.map_append]
  exact ix_neg1t _ _
theorem neg1_row (c : Cst) (a b : List Int) : oIx (.v (ti (rowE (eD c a b a.length) (b.length + 1)))) (.v (.int (-1))) = some (.v (.int (eC' c a b))) := by
  unfold ti
  rw [rowE_succ, List.map_append]
  exact ix_neg1t _ _
theorem edit_paper_ok {c : Cst} {a b : List Int} (ha : a.length ≤ 8) (hb : b.length ≤ 8) (h : c.Ps) (hs : c.ad ≤ 1000) : G.F_edit_paper [.v (ti a), .v (ti b), .v (csD c)] = .ok (.v (papE c a b)) [] := by
  have ht := edit_table_ok ha hb h hs
  have h0 : G.edit_paper_0 [some (.v (ti a)), some (.v (ti b)), some (.v (csD c)), none, none, none, none, none, none, none, none] = .nxt [some (.v (ti a)), some (.v (ti b)), some (.v (csD c)), some (.v (tt (eT c a b))), none, none, none, none, none, none, none] := by
    unfold G.edit_paper_0
    generalize ti a = A at *
    generalize ti b = B at *
    generalize csD c = Z at *
    generalize tt (eT c a b) = T at *
    simp [ht]
  have h1 : G.edit_paper_1 [some (.v (ti a)), some (.v (ti b)), some (.v (csD c)), some (.v (tt (eT c a b))), none, none, none, none, none, none, none] = .nxt [some (.v (ti a)), some (.v (ti b)), some (.v (csD c)), some (.v (tt (eT c a b))), some (.v (.int c.dr)), some (.v (.int c.ad)), some (.v (.int c.ch)), none, none, none, none] := by
    unfold G.edit_paper_1 csD
    generalize ti a = A at *
    generalize ti b = B at *
    generalize tt (eT c a b) = T at *
    simp
  have h2 : G.edit_paper_2 [some (.v (ti a)), some (.v (ti b)), some (.v (csD c)), some (.v (tt (eT c a b))), some (.v (.int c.dr)), some (.v (.int c.ad)), some (.v (.int c.ch)), none, none, none, none] = .nxt [some (.v (ti a)), some (.v (ti b)), some (.v (csD c)), some (.v (tt (eT c a b))), some (.v (.int c.dr)), some (.v (.int c.ad)), some (.v (.int c.ch)), some (.v (.int (a.length : Int))), some (.v (.int (b.length : Int))), none, none] := by
    have l1 := ti_len' a
    have l2 := ti_len' b
    unfold G.edit_paper_2
    generalize ti a = A at *
    generalize ti b = B at *
    generalize tt (eT c a b) = T at *
    simp [l1, l2, -len_v]
  have h3 : (sSet 9 (eLst eNil)) [some (.v (ti a)), some (.v (ti b)), some (.v (csD c)), some (.v (tt (eT c a b))), some (.v (.int c.dr)), some (.v (.int c.ad)), some (.v (.int c.ch)), some (.v (.int (a.length : Int))), some (.v (.int (b.length : Int))), none, none] = .nxt (epE c a b a.length b.length [] none) := by
    simp [epE, wL]
  let m := a.length + b.length
  obtain ⟨e', h4, x10, rfl⟩ := whileS (t := G.edit_paper_4t1) (b := sSeq G.edit_paper_4l0 G.edit_paper_4l1) (fun (q : Nat × Nat × List Wd4) e => ∃ x10, e = epE c a b q.1 q.2.1 q.2.2 x10 ∧ q.1 ≤ a.length ∧ q.2.1 ≤ b.length ∧ q.2.2.length + (q.1 + q.2.1) ≤ m ∧ q.2.2 ++ scrR c a b (q.1 + q.2.1) q.1 q.2.1 = scrR c a b m a.length b.length) (fun q => q.1 + q.2.1)
    (fun e => ∃ x10, e = epE c a b 0 0 (scrR c a b m a.length b.length) x10) (by
    rintro ⟨i, j, ws⟩ e ⟨x10, rfl, hi, hj, hl, hw⟩
    dsimp only at hi hj hl hw ⊢
    have p1 : decide ((0 : Int) < (i : Int)) = decide (0 < i) := by rw [Bool.eq_iff_iff, decide_eq_true_eq, decide_eq_true_eq]; omega
    have p2 : decide ((0 : Int) < (j : Int)) = decide (0 < j) := by rw [Bool.eq_iff_iff, decide_eq_true_eq, decide_eq_true_eq]; omega
    have ht : G.edit_paper_4t1 (epE c a b i j ws x10) = .ok (decide (0 < i + j)) (epE c a b i j ws x10) := by
      unfold G.edit_paper_4t1 epE
      by_cases hi0 : 0 < i
      · have : 0 < i + j := by omega
        simp [p1, hi0, this]
      · have e0 : i = 0 := by omega
        subst e0
        simp
    rw [ht]
    by_cases h0 : 0 < i + j
    · obtain ⟨q1, q2, q3, _⟩ := last_ok h hi hj h0
      have hm16 : m ≤ 16 := by show a.length + b.length ≤ 16; omega
      obtain ⟨y10, hy⟩ := ep_turn h ha hb hi hj h0 ws (by omega) x10
      refine .inr ⟨(pI (lastW c a b i j) i, pJ (lastW c a b i j) j, ws ++ [lastW c a b i j]), _, _, by rw [decide_eq_true h0], hy, ⟨y10, rfl, (by show pI (lastW c a b i j) i ≤ a.length; omega), (by show pJ (lastW c a b i j) j ≤ b.length; omega), (by show (ws ++ [lastW c a b i j]).length + (pI (lastW c a b i j) i + pJ (lastW c a b i j) j) ≤ m; rw [List.length_append, List.length_singleton]; omega), ?_⟩, q1⟩
      rw [← hw]
      obtain ⟨t, ht⟩ : ∃ t, i + j = t + 1 := ⟨i + j - 1, by omega⟩
      rw [ht, scrR_succ _ _ _ _ _ _ (by omega), scrR_mono h t _ _ (by omega) (by omega) (by omega)]
      simp
    · have e1 : i = 0 := by omega
      have e2' : j = 0 := by omega
      subst e1 e2'
      refine .inl ⟨_, by rw [decide_eq_false h0], x10, ?_⟩
      have : ws = scrR c a b m a.length b.length := by rw [← hw]; simp [scrR]
      rw [this]) (a.length, b.length, []) (epE c a b a.length b.length [] none) ⟨none, rfl, Nat.le_refl _, Nat.le_refl _, by show 0 + (a.length + b.length) ≤ a.length + b.length; omega, by rw [List.nil_append]⟩
  have h5 : G.edit_paper_5 (epE c a b 0 0 (scrR c a b m a.length b.length) x10) = .ret (.v (papE c a b)) ((epE c a b 0 0 (scrR c a b m a.length b.length) x10).set 9 (some (.v (.lst (wL (scrR c a b m a.length b.length)))))) := by
    have n1 := neg1_tt c a b
    have n2 := neg1_row c a b
    have hneg : oNeg (.v (.int 1)) = some (.v (.int (-1))) := rfl
    have hrv : oRv (.v (.lst (wL (scrR c a b m a.length b.length)))) = some (.o (wL (script c a b))) := by
      show some (Vl.o _) = some (Vl.o _)
      congr 2
      show (List.map _ _).reverse = List.map _ (List.reverse _)
      rw [List.map_reverse]
    have htt : oTuple (.o (wL (script c a b))) = some (.v (.tup (wL (script c a b)))) := rfl
    unfold G.edit_paper_5 epE papE
    generalize tt (eT c a b) = T at *
    generalize wL (scrR c a b m a.length b.length) = W at *
    generalize wL (script c a b) = W2 at *
    generalize ti (rowE (eD c a b a.length) (b.length + 1)) = R at *
    simp [n1, n2, hneg, hrv, htt]
  refine run_of (os := []) (e := ((epE c a b 0 0 (scrR c a b m a.length b.length) x10).set 9 (some (.v (.lst (wL (scrR c a b m a.length b.length))))))) ?_ rfl
  unfold G.c_edit_paper
  exact (seq_nxt h0).trans ((seq_nxt h1).trans ((seq_nxt h2).trans ((seq_nxt h3).trans ((seq_nxt h4).trans h5))))
end Fx
end

section
set_option linter.all false
set_option maxRecDepth 10000
/-! Hd: what a script costs, both ways. -/
namespace Fx
def runS (c : Cst) (a b : List Int) (st : Nat × Nat × Int) (w : String) : Option (Nat × Nat × Int) :=
  if w = "keep" ∨ w = "change" then
    if a.length ≤ st.1 ∨ b.length ≤ st.2.1 ∨ (w = "keep" ∧ sg a st.1 ≠ sg b st.2.1) then none else some (st.1 + 1, st.2.1 + 1, st.2.2 + if w = "change" then c.ch else 0)
  else if w = "drop" then some (st.1 + 1, st.2.1, st.2.2 + c.dr)
  else if w = "add" then some (st.1, st.2.1 + 1, st.2.2 + c.ad)
  else none
def costD (c : Cst) (a b : List Int) (ws : List String) : D := match ws.foldlM (runS c a b) (0, 0, 0) with
  | some st => if st.1 = a.length ∧ st.2.1 = b.length then .int st.2.2 else .non
  | none => .non
theorem runS_runW {c : Cst} {a b : List Int} (i j : Nat) (k : Int) (w : Wd4) : runS c a b (i, j, k) w.s = runW c a b (some (i, j, k)) w := by
  cases w with
  | keep =>
    simp only [Wd4.s, runS, runW]
    by_cases h : i < a.length ∧ j < b.length ∧ sg a i = sg b j
    · rw [if_pos h]
      have : ¬ (a.length ≤ i ∨ b.length ≤ j ∨ (True ∧ sg a i ≠ sg b j)) := by omega
      simp [this, h.1, h.2.1, h.2.2]
    · rw [if_neg h]
      have : a.length ≤ i ∨ b.length ≤ j ∨ sg a i ≠ sg b j := by omega
      simp [this]
  | change =>
    simp only [Wd4.s, runS, runW]
    by_cases h : i < a.length ∧ j < b.length
    · rw [if_pos h]
      have : ¬ (a.length ≤ i ∨ b.length ≤ j) := by omega
      simp [this, h.1, h.2]
    · rw [if_neg h]
      have : a.length ≤ i ∨ b.length ≤ j := by omega
      simp [this]
  | drop => simp [Wd4.s, runS, runW]
  | add => simp [Wd4.s, runS, runW]
theorem fold_none (c : Cst) (a b : List Int) (l : List Wd4) : l.foldl (runW c a b) none = none := by
  induction l with
  | nil => rfl
  | cons w l ih => exact ih
theorem foldM_run {c : Cst} {a b : List Int} : ∀ (l : List Wd4) (st : Nat × Nat × Int), (l.map Wd4.s).foldlM (runS c a b) st = l.foldl (runW c a b) (some st)
  | [], st => rfl
  | w :: l, (i, j, k) => by
    rw [List.map_cons, List.foldlM_cons, List.foldl_cons, runS_runW]
    cases h : runW c a b (some (i, j, k)) w with
    | none => rw [fold_none]; rfl
    | some st => exact foldM_run l st
theorem cost_script {c : Cst} (h : c.Ps) (a b : List Int) : costD c a b ((script c a b).map Wd4.s) = .int (eC' c a b) := by
  unfold costD
  rw [foldM_run]
  unfold script
  rw [(scr_run h (a.length + b.length) a.length b.length (Nat.le_refl _) (Nat.le_refl _) (Nat.le_refl _)).1]
  simp [eC']
/-! the program's -/
def scE (c : Cst) (a b : List Int) (ws : List String) (st : Nat × Nat × Int) (x10 : Option Vl) : En :=
  [some (.v (ti a)), some (.v (ti b)), some (.v (csD c)), some (.v (.tup (ws.map .str))), some (.v (.int c.dr)), some (.v (.int c.ad)), some (.v (.int c.ch)), some (.v (.int (st.1 : Int))), some (.v (.int (st.2.1 : Int))), some (.v (.int st.2.2)), x10]
theorem eq_ss (s t : String) : oEq (.v (.str s)) (.v (.str t)) = some (.v (.bl (decide (s = t)))) := by simp [oEq, Vl.eq, D.dep, D.eq]
theorem in_kc (w : String) : oIn (.v (.str w)) (.v (.tup [.str "keep", .str "change"])) = some (.v (.bl (decide (w = "keep") || decide (w = "change")))) := by
  have e1 : decide ("keep" = w) = decide (w = "keep") := by rw [Bool.eq_iff_iff, decide_eq_true_eq, decide_eq_true_eq]; exact ⟨Eq.symm, Eq.symm⟩
  have e2' : decide ("change" = w) = decide (w = "change") := by rw [Bool.eq_iff_iff, decide_eq_true_eq, decide_eq_true_eq]; exact ⟨Eq.symm, Eq.symm⟩
  simp [oIn, inD, D.eq, D.dep, e1, e2']
theorem in_kcL (w : String) : oIn (.v (.str w)) (.o [.str "keep", .str "change"]) = some (.v (.bl (decide (w = "keep") || decide (w = "change")))) := by
  have := in_kc w
  simpa [oIn] using this
theorem nat_le (m i : Nat) : decide ((m : Int) ≤ (i : Int)) = decide (m ≤ i) := by rw [Bool.eq_iff_iff, decide_eq_true_eq, decide_eq_true_eq]; omega
theorem sc_turn (c : Cst) (a b : List Int) (ws : List String) (st : Nat × Nat × Int) (w : String) : match runS c a b st w with
    | some st' => G.script_cost_2l0 (scE c a b ws st (some (.v (.str w)))) = .nxt (scE c a b ws st' (some (.v (.str w))))
    | none => G.script_cost_2l0 (scE c a b ws st (some (.v (.str w)))) = .ret (.v .non) (scE c a b ws st (some (.v (.str w)))) := by
  obtain ⟨i, j, k⟩ := st
  have la := ti_len' a
  have lb := ti_len' b
  have kc := in_kc w
  let e0 := scE c a b ws (i, j, k) (some (.v (.str w)))
  have t0 : G.script_cost_2l0t1 e0 = .ok (decide (w = "keep") || decide (w = "change")) e0 := by
    show G.script_cost_2l0t1 (scE c a b ws (i, j, k) (some (.v (.str w)))) = .ok _ (scE c a b ws (i, j, k) (some (.v (.str w))))
    unfold G.script_cost_2l0t1 scE
    generalize (decide (w = "keep") || decide (w = "change")) = q at *
    simp [kc]
  have eq1 := eq_ss w "keep"
  have eq2 := eq_ss w "change"
  have eq3 := eq_ss w "drop"
  have eq4 := eq_ss w "add"
  have n1 := nat_le a.length i
  have n2 := nat_le b.length j
  unfold runS
  dsimp only
  by_cases hk : w = "keep" ∨ w = "change"
  · have hkb : (decide (w = "keep") || decide (w = "change")) = true := by simpa using hk
    rw [if_pos hk]
    rw [hkb] at t0
    have t1 : G.script_cost_2l0a0t1 e0 = .ok (decide (a.length ≤ i ∨ b.length ≤ j ∨ (w = "keep" ∧ sg a i ≠ sg b j))) e0 := by
      show G.script_cost_2l0a0t1 (scE c a b ws (i, j, k) (some (.v (.str w)))) = .ok _ (scE c a b ws (i, j, k) (some (.v (.str w))))
      unfold G.script_cost_2l0a0t1 scE
      by_cases h1 : a.length ≤ i
      · generalize ti a = A at *
        generalize ti b = B at *
        simp [la, n1, h1, -len_v]
      · by_cases h2 : b.length ≤ j
        · generalize ti a = A at *
          generalize ti b = B at *
          simp [la, lb, n1, n2, h1, h2, -len_v]
        · have q1 := ti_sg a (show i < a.length by omega)
          have q2 := ti_sg b (show j < b.length by omega)
          generalize ti a = A at *
          generalize ti b = B at *
          by_cases h3 : w = "keep"
          · by_cases h4 : sg a i = sg b j
            · simp [la, lb, n1, n2, h1, h2, eq_ss, D.eq, h3, q1, q2, h4, -len_v]
            · simp [la, lb, n1, n2, h1, h2, eq_ss, D.eq, h3, q1, q2, h4, -len_v]
          · simp [la, lb, n1, n2, h1, h2, eq_ss, D.eq, h3, -len_v]
    by_cases hc : a.length ≤ i ∨ b.length ≤ j ∨ (w = "keep" ∧ sg a i ≠ sg b j)
    · rw [if_pos hc]
      rw [decide_eq_true hc] at t1
      show G.script_cost_2l0 e0 = .ret (.v .non) e0
      unfold G.script_cost_2l0
      rw [s_sIf, t0]
      simp only [if_true]
      refine seq_ret'' ?_
      unfold G.script_cost_2l0a0
      rw [s_sIf, t1]
      simp
    · rw [if_neg hc]
      rw [decide_eq_false hc] at t1
      show G.script_cost_2l0 e0 = .nxt (scE c a b ws (i + 1, j + 1, k + if w = "change" then c.ch else 0) (some (.v (.str w))))
      unfold G.script_cost_2l0
      rw [s_sIf, t0]
      simp only [if_true]
      refine (seq_nxt (e' := e0) (by unfold G.script_cost_2l0a0; rw [s_sIf, t1]; simp)).trans ?_
      show sSeq _ _ (scE c a b ws (i, j, k) (some (.v (.str w)))) = _
      unfold G.script_cost_2l0a1 G.script_cost_2l0a2 scE
      by_cases h5 : w = "change"
      · simp [eq_ss, D.eq, h5]
      · simp [eq_ss, D.eq, h5]
  · rw [if_neg hk]
    have hkb : (decide (w = "keep") || decide (w = "change")) = false := by simpa using hk
    rw [hkb] at t0
    by_cases hd : w = "drop"
    · rw [if_pos hd]
      show G.script_cost_2l0 e0 = .nxt (scE c a b ws (i + 1, j, k + c.dr) (some (.v (.str w))))
      unfold G.script_cost_2l0
      rw [s_sIf, t0]
      simp only [Bool.false_eq_true, if_false]
      show G.script_cost_2l0b0 (scE c a b ws (i, j, k) (some (.v (.str w)))) = _
      unfold G.script_cost_2l0b0 G.script_cost_2l0b0a0 scE
      simp [eq_ss, D.eq, hd]
    · rw [if_neg hd]
      by_cases ha : w = "add"
      · rw [if_pos ha]
        show G.script_cost_2l0 e0 = .nxt (scE c a b ws (i, j + 1, k + c.ad) (some (.v (.str w))))
        unfold G.script_cost_2l0
        rw [s_sIf, t0]
        simp only [Bool.false_eq_true, if_false]
        show G.script_cost_2l0b0 (scE c a b ws (i, j, k) (some (.v (.str w)))) = _
        unfold G.script_cost_2l0b0 G.script_cost_2l0b0b0 G.script_cost_2l0b0b0a0 scE
        simp [eq_ss, D.eq, hd, ha]
      · rw [if_neg ha]
        show G.script_cost_2l0 e0 = .ret (.v .non) e0
        unfold G.script_cost_2l0
        rw [s_sIf, t0]
        simp only [Bool.false_eq_true, if_false]
        show G.script_cost_2l0b0 (scE c a b ws (i, j, k) (some (.v (.str w)))) = .ret _ (scE c a b ws (i, j, k) (some (.v (.str w))))
        unfold G.script_cost_2l0b0 G.script_cost_2l0b0b0 scE
        simp [eq_ss, D.eq, hd, ha]
theorem script_cost_ok (c : Cst) (a b : List Int) (ws : List String) : G.F_script_cost [.v (ti a), .v (ti b), .v (csD c), .v (.tup (ws.map .str))] = .ok (.v (costD c a b ws)) [] := by
  suffices hz : ∃ e', G.c_script_cost [some (.v (ti a)), some (.v (ti b)), some (.v (csD c)), some (.v (.tup (ws.map .str))), none, none, none, none, none, none, none] = .ret (.v (costD c a b ws)) e' by
    obtain ⟨e', hz⟩ := hz
    exact run_of (os := []) hz rfl
  have h0 : G.script_cost_0 [some (.v (ti a)), some (.v (ti b)), some (.v (csD c)), some (.v (.tup (ws.map .str))), none, none, none, none, none, none, none] = .nxt [some (.v (ti a)), some (.v (ti b)), some (.v (csD c)), some (.v (.tup (ws.map .str))), some (.v (.int c.dr)), some (.v (.int c.ad)), some (.v (.int c.ch)), none, none, none, none] := by
    unfold G.script_cost_0 csD
    generalize ti a = A at *
    generalize ti b = B at *
    generalize ws.map D.str = W at *
    simp
  have h1 : G.script_cost_1 [some (.v (ti a)), some (.v (ti b)), some (.v (csD c)), some (.v (.tup (ws.map .str))), some (.v (.int c.dr)), some (.v (.int c.ad)), some (.v (.int c.ch)), none, none, none, none] = .nxt (scE c a b ws (0, 0, 0) none) := by
    unfold G.script_cost_1 scE
    generalize ti a = A at *
    generalize ti b = B at *
    generalize csD c = Z at *
    generalize ws.map D.str = W at *
    simp
  have hf := forM (g := gN 10) (b := G.script_cost_2l0) D.str (runS c a b) (fun st e => ∃ x10, e = scE c a b ws st x10) (.v .non) ws (0, 0, 0) (scE c a b ws (0, 0, 0) none) ⟨none, rfl⟩ (by
    rintro w hw st e ⟨x10, rfl⟩
    refine ⟨scE c a b ws st (some (.v (.str w))), rfl, ?_⟩
    have := sc_turn c a b ws st w
    cases hr : runS c a b st w with
    | some st' => rw [hr] at this; exact ⟨_, this, _, rfl⟩
    | none => rw [hr] at this; exact ⟨_, this⟩)
  have hit : iL (eV 3) (scE c a b ws (0, 0, 0) none) = .ok (ws.map .str) (scE c a b ws (0, 0, 0) none) := by unfold scE; simp
  unfold G.c_script_cost
  rw [seq_nxt h0, seq_nxt h1]
  unfold costD
  cases hr : ws.foldlM (runS c a b) (0, 0, 0) with
  | none =>
    rw [hr] at hf
    obtain ⟨e', hf⟩ := hf
    exact ⟨e', seq_ret'' (by unfold G.script_cost_2; rw [s_sFor, hit]; exact hf)⟩
  | some st =>
    rw [hr] at hf
    obtain ⟨e', hf, x10, rfl⟩ := hf
    have h2 : G.script_cost_2 (scE c a b ws (0, 0, 0) none) = .nxt (scE c a b ws st x10) := by unfold G.script_cost_2; rw [s_sFor, hit]; exact hf
    rw [seq_nxt h2]
    obtain ⟨i, j, k⟩ := st
    have la := ti_len' a
    have lb := ti_len' b
    refine ⟨scE c a b ws (i, j, k) x10, ?_⟩
    dsimp only
    have he : oEq (.v (.tup [.int (i : Int), .int (j : Int)])) (.v (.tup [.int (a.length : Int), .int (b.length : Int)])) = some (.v (.bl (decide (i = a.length ∧ j = b.length)))) := by
      have d1 : decide ((i : Int) = (a.length : Int)) = decide (i = a.length) := by simp [Int.ofNat_inj]
      have d2 : decide ((j : Int) = (b.length : Int)) = decide (j = b.length) := by simp [Int.ofNat_inj]
      simp [oEq, Vl.eq, D.dep, D.deps, D.eq, D.eqs, d1, d2]
    unfold G.script_cost_3 scE
    generalize ti a = A at *
    generalize ti b = B at *
    by_cases hij : i = a.length ∧ j = b.length
    · rw [decide_eq_true hij] at he
      simp [la, lb, he, hij.1, hij.2, -len_v]
      rw [hij.1, hij.2] at he
      simp [he]
    · rw [decide_eq_false hij] at he
      rw [if_neg hij]
      simp [la, lb, he, -len_v]
end Fx
end

section
set_option linter.all false
set_option maxRecDepth 10000
/-! He: the law's cost of a script. -/
namespace Fx
def lcE (c : Cst) (a b : List Int) (ws : List String) (st : Nat × Nat × Int) (x7 : Option Vl) : En :=
  [some (.v (ti a)), some (.v (ti b)), some (.v (csD c)), some (.v (.tup (ws.map .str))), some (.v (.int (st.1 : Int))), some (.v (.int (st.2.1 : Int))), some (.v (.int st.2.2)), x7]
theorem cs_0 (c : Cst) : oIx (.v (csD c)) (.v (.int 0)) = some (.v (.int c.dr)) := rfl
theorem cs_1 (c : Cst) : oIx (.v (csD c)) (.v (.int 1)) = some (.v (.int c.ad)) := rfl
theorem cs_2 (c : Cst) : oIx (.v (csD c)) (.v (.int 2)) = some (.v (.int c.ch)) := rfl
end Fx
end

section
set_option linter.all false
set_option maxRecDepth 10000
/-! Hf: tables of whole numbers, and how they grow. -/
namespace Fx
def isRowI (m : Nat) : D → Bool
  | .tup l => decide (l.length = m) && l.all isI
  | _ => false
def isTabI (n m : Nat) : D → Bool
  | .tup l => decide (l.length = n) && l.all (isRowI m)
  | _ => false
def D.its : D → List D
  | .tup l => l
  | _ => []
def tabOf (d : D) : List (List Int) := d.its.map fun r => r.its.map D.iv
theorem isRowI_eq {m : Nat} {d : D} (h : isRowI m d = true) : d = ti (d.its.map D.iv) ∧ (d.its.map D.iv).length = m := by
  cases d with
  | tup l =>
    simp only [isRowI, Bool.and_eq_true, decide_eq_true_eq] at h
    refine ⟨?_, by simpa [D.its] using h.1⟩
    show D.tup l = .tup ((l.map D.iv).map .int)
    have hb : ∀ l : List D, l.all isI = true → l = (l.map D.iv).map .int := by
      intro l hl
      induction l with
      | nil => rfl
      | cons a l ih =>
        simp only [List.all_cons, Bool.and_eq_true] at hl
        rw [List.map_cons, List.map_cons, ← ih hl.2]
        cases a <;> first | rfl | (cases hl.1)
    rw [← hb l h.2]
  | _ => simp [isRowI] at h
theorem isTabI_eq {n m : Nat} {d : D} (h : isTabI n m d = true) : d = tt (tabOf d) ∧ (tabOf d).length = n ∧ ∀ r ∈ tabOf d, r.length = m := by
  cases d with
  | tup l =>
    simp only [isTabI, Bool.and_eq_true, decide_eq_true_eq] at h
    obtain ⟨h1, h2⟩ := h
    rw [List.all_eq_true] at h2
    refine ⟨?_, by simpa [tabOf, D.its] using h1, ?_⟩
    · show D.tup l = .tup ((l.map fun r => r.its.map D.iv).map ti)
      congr 1
      rw [List.map_map]
      conv => lhs; rw [← List.map_id l]
      refine List.map_congr_left fun r hr => ?_
      exact (isRowI_eq (h2 r hr)).1
    · intro r hr
      simp only [tabOf, D.its, List.mem_map] at hr
      obtain ⟨x, hx, rfl⟩ := hr
      exact (isRowI_eq (h2 x hx)).2
  | _ => simp [isTabI] at h
theorem isTabI_tt {n m : Nat} (T : List (List Int)) (h1 : T.length = n) (h2 : ∀ r ∈ T, r.length = m) : isTabI n m (tt T) = true := by
  simp only [tt, isTabI, Bool.and_eq_true, decide_eq_true_eq, List.length_map, h1, true_and, List.all_map, List.all_eq_true]
  intro r hr
  have := h2 r hr
  simp [Function.comp, ti, isRowI, this, isI]
theorem tabOf_tt (T : List (List Int)) : tabOf (tt T) = T := by
  show (T.map ti).map (fun r => r.its.map D.iv) = T
  rw [List.map_map]
  conv => rhs; rw [← List.map_id T]
  refine List.map_congr_left fun r hr => ?_
  show (r.map D.int).map D.iv = r
  rw [List.map_map]
  exact List.map_id r
/-! is_table -/
def itE (d : D) (n m : Nat) (x3 : Option Vl) : En := [some (.v d), some (.v (.int (n : Int))), some (.v (.int (m : Int))), x3, none]
theorem it_row (d : D) (n m : Nat) (r : D) (hr : ∀ l, r = .tup l → l.length ≤ 1000) : G.is_table_1l0 (itE d n m (some (.v r))) = if isRowI m r = true then .nxt (itE d n m (some (.v r))) else .ret (.v (.bl false)) (itE d n m (some (.v r))) := by
  have ht : G.is_table_1l0t1 (itE d n m (some (.v r))) = .ok (!isRowI m r) (itE d n m (some (.v r))) := by
    cases r with
    | tup l =>
      have hl := hr l rfl
      have hc := comp0 (vs := [4]) (it := iL (eV 3)) (g := gN 4) (x := e1 oNot (eCall G.F_is_integer [.va (eV 4)])) (e := itE d n m (some (.v (.tup l)))) (e1 := itE d n m (some (.v (.tup l)))) l id (fun c => .bl (!isI c)) (itE d n m (some (.v (.tup l)))) (fun c => [some (.v d), some (.v (.int (n : Int))), some (.v (.int (m : Int))), some (.v (.tup l)), some (.v c)]) (by unfold itE; simp) (by unfold lim; omega) rfl rfl (fun c hc => ⟨rfl, ⟨.v (.bl (!isI c)), by simp [is_integer_ok, isI_isA], rfl⟩, rfl⟩)
      have ha := bools_not isI l
      have hlen : oLen (.v (.tup l)) = some (.v (.int (l.length : Int))) := rfl
      have hA : (D.tup l).isA .tTuple = true := rfl
      unfold G.is_table_1l0t1
      generalize eComp [4] (iL (eV 3)) (gN 4) tYes (e1 oNot (eCall G.F_is_integer [.va (eV 4)])) = Y at hc ⊢
      generalize l.map (fun d => D.bl (!isI d)) = R at *
      unfold isRowI
      dsimp only
      unfold itE at hc ⊢
      by_cases h1 : l.length = m
      · have h1' : (l.length : Int) = (m : Int) := by omega
        generalize l.all isI = q at *
        generalize D.tup l = L at *
        simp [hA, hlen, h1, hc, ha, -len_v]
      · have h1' : ¬ (l.length : Int) = (m : Int) := by omega
        generalize l.all isI = q at *
        generalize D.tup l = L at *
        simp [hA, hlen, h1, h1', -len_v]
    | _ => unfold G.is_table_1l0t1 itE; simp [D.isA, isRowI]
  unfold G.is_table_1l0
  rw [s_sIf, ht]
  cases isRowI m r <;> simp
theorem is_table_ok {k w : Nat} (d : D) (hd : Bd k w d) (hw : w ≤ 1000) (n m : Nat) : G.F_is_table [.v d, .v (.int (n : Int)), .v (.int (m : Int))] = .ok (.v (.bl (isTabI n m d))) [] := by
  suffices hz : ∃ e', G.c_is_table (itE d n m none) = .ret (.v (.bl (isTabI n m d))) e' by
    obtain ⟨e', hz⟩ := hz
    exact run_of (os := []) hz rfl
  unfold G.c_is_table
  cases d with
  | tup l =>
    have hb : ∀ x ∈ l, ∀ r, x = .tup r → r.length ≤ 1000 := by
      intro x hx r e
      cases k with
      | zero => exact absurd hd bd_zero
      | succ k =>
        have := (bd_tup.mp hd).2 x hx
        rw [e] at this
        cases k with
        | zero => exact absurd this bd_zero
        | succ k => have := (bd_tup.mp this).1; omega
    have hlen : oLen (.v (.tup l)) = some (.v (.int (l.length : Int))) := rfl
    have hA : (D.tup l).isA .tTuple = true := rfl
    have ht : G.is_table_0t1 (itE (.tup l) n m none) = .ok (!decide (l.length = n)) (itE (.tup l) n m none) := by
      unfold G.is_table_0t1 itE
      have hdl : decide ((l.length : Int) = (n : Int)) = decide (l.length = n) := by simp [Int.ofNat_inj]
      generalize D.tup l = L at *
      by_cases h1 : l.length = n
      · simp [hA, hlen, h1, -len_v]
      · have h1' : ¬ (l.length : Int) = (n : Int) := by omega
        simp [hA, hlen, h1, h1', -len_v]
    unfold isTabI
    dsimp only
    by_cases h1 : l.length = n
    · have hn : G.is_table_0 (itE (.tup l) n m none) = .nxt (itE (.tup l) n m none) := by unfold G.is_table_0; rw [s_sIf, ht, decide_eq_true h1]; simp
      rw [seq_nxt hn, decide_eq_true h1, Bool.true_and]
      have hf := forB (g := gN 3) (b := G.is_table_1l0) id (fun e => ∃ x3, e = itE (.tup l) n m x3) (isRowI m) (.v (.bl false)) l (itE (.tup l) n m none) ⟨none, rfl⟩ (by
        rintro a ha e ⟨x3, rfl⟩
        refine ⟨itE (.tup l) n m (some (.v a)), rfl, ?_⟩
        have := it_row (.tup l) n m a (hb a ha)
        cases hq : isRowI m a with
        | true => rw [hq, if_pos rfl] at this; rw [if_pos rfl]; exact ⟨_, this, _, rfl⟩
        | false => rw [hq, if_neg (by simp)] at this; rw [if_neg (by simp)]; exact ⟨_, this⟩)
      rw [List.map_id] at hf
      have hit : iL (eV 0) (itE (.tup l) n m none) = .ok l (itE (.tup l) n m none) := by unfold itE; simp
      cases hq : l.all (isRowI m) with
      | true =>
        rw [hq, if_pos rfl] at hf
        obtain ⟨e', hf, x3, rfl⟩ := hf
        have h2 : G.is_table_1 (itE (.tup l) n m none) = .nxt (itE (.tup l) n m x3) := by unfold G.is_table_1; rw [s_sFor, hit]; exact hf
        rw [seq_nxt h2]
        exact ⟨_, rfl⟩
      | false =>
        rw [hq, if_neg (by simp)] at hf
        obtain ⟨e', hf⟩ := hf
        exact ⟨e', seq_ret'' (by unfold G.is_table_1; rw [s_sFor, hit]; exact hf)⟩
    · rw [decide_eq_false h1, Bool.false_and]
      exact ⟨itE (.tup l) n m none, seq_ret'' (by unfold G.is_table_0; rw [s_sIf, ht, decide_eq_false h1]; simp)⟩
  | _ => exact ⟨_, seq_ret'' (by unfold G.is_table_0 G.is_table_0t1 itE; simp [D.isA]; exact ⟨rfl, rfl⟩)⟩
/-! grows -/
def growB (c : Cst) (a b : List Int) (T : List (List Int)) (i j : Nat) : Bool :=
  (decide (i = 0) || decide (at2 T i j ≤ at2 T (i - 1) j + c.dr)) && ((decide (j = 0) || decide (at2 T i j ≤ at2 T i (j - 1) + c.ad)) &&
   (decide (i = 0) || decide (j = 0) || decide (at2 T i j ≤ at2 T (i - 1) (j - 1) + stp c a b (i - 1) (j - 1))))
def growsB (c : Cst) (a b : List Int) (T : List (List Int)) : Bool := (List.range (a.length + 1)).all fun i => (List.range (b.length + 1)).all fun j => growB c a b T i j
structure Rc (n m : Nat) (T : List (List Int)) : Prop where
  len : T.length = n
  row : ∀ r ∈ T, r.length = m
theorem Rc.sq {n m : Nat} {T : List (List Int)} (h : Rc n m T) {i : Nat} (hi : i < n) : oIx (.v (tt T)) (.v (.int (i : Int))) = some (.v (ti (T.getD i []))) := by
  rw [ix_tt]
  have := h.len
  simp [List.getD, show i < T.length by omega]
theorem Rc.ix {n m : Nat} {T : List (List Int)} (h : Rc n m T) {i j : Nat} (hi : i < n) (hj : j < m) : oIx (.v (ti (T.getD i []))) (.v (.int (j : Int))) = some (.v (.int (at2 T i j))) := by
  rw [ix_ti]
  have hl := h.len
  have hr : (T.getD i []).length = m := by
    have hi' : i < T.length := by omega
    have : T.getD i [] = T[i] := by simp [List.getD, hi']
    rw [this]
    exact h.row _ (List.getElem_mem hi')
  have e : ∀ (L : List Int), j < L.length → (L[j]?).map (fun x => Vl.v (.int x)) = some (.v (.int (L.getD j 0))) := fun L h => by simp [List.getD, h]
  exact e _ (by omega)
def grE (c : Cst) (a b : List Int) (T : List (List Int)) (i j : Nat) (x9 x10 : Option Vl) : En :=
  [some (.v (ti a)), some (.v (ti b)), some (.v (csD c)), some (.v (tt T)), some (.v (.int c.dr)), some (.v (.int c.ad)), some (.v (.int c.ch)), some (.v (.int (i : Int))), some (.v (.int (j : Int))), x9, x10]
theorem gr_cell {c : Cst} {a b : List Int} {T : List (List Int)} (hT : Rc (a.length + 1) (b.length + 1) T) {i j : Nat} (hi : i < a.length + 1) (hj : j < b.length + 1) (x9 x10 : Option Vl) :
    if growB c a b T i j = true then ∃ y9 y10, G.grows_1l0L1 (grE c a b T i j x9 x10) = .nxt (grE c a b T i j y9 y10) else ∃ e', G.grows_1l0L1 (grE c a b T i j x9 x10) = .ret (.v (.bl false)) e' := by
  have r1 := hT.sq hi
  have r2 := hT.ix hi hj
  let v := at2 T i j
  let e1' := grE c a b T i j (some (.v (.int v))) x10
  have s0 : G.grows_1l0l0 (grE c a b T i j x9 x10) = .nxt e1' := by
    show G.grows_1l0l0 (grE c a b T i j x9 x10) = .nxt (grE c a b T i j (some (.v (.int (at2 T i j)))) x10)
    unfold G.grows_1l0l0 grE
    generalize tt T = Q at *
    generalize ti (T.getD i []) = R at *
    simp [r1, r2]
  have p1 : decide ((0 : Int) < (i : Int)) = decide (0 < i) := by rw [Bool.eq_iff_iff, decide_eq_true_eq, decide_eq_true_eq]; omega
  have p2 : decide ((0 : Int) < (j : Int)) = decide (0 < j) := by rw [Bool.eq_iff_iff, decide_eq_true_eq, decide_eq_true_eq]; omega
  have t1 : G.grows_1l0l1t1 e1' = .ok (!(decide (i = 0) || decide (at2 T i j ≤ at2 T (i - 1) j + c.dr))) e1' := by
    show G.grows_1l0l1t1 (grE c a b T i j (some (.v (.int (at2 T i j)))) x10) = .ok _ (grE c a b T i j (some (.v (.int (at2 T i j)))) x10)
    unfold G.grows_1l0l1t1 grE
    by_cases hi0 : 0 < i
    · have q3 := hT.sq (show i - 1 < a.length + 1 by omega)
      have q4 := hT.ix (show i - 1 < a.length + 1 by omega) hj
      rw [← sub1 hi0] at q3
      have hz : ¬ i = 0 := by omega
      generalize tt T = Q at *
      generalize ti (T.getD (i - 1) []) = R at *
      generalize at2 T i j = u at *
      generalize at2 T (i - 1) j = w at *
      by_cases hc : u ≤ w + c.dr
      · have hc' : ¬ w + c.dr < u := by omega
        simp [p1, hi0, q3, q4, hc, hc', hz]
      · have hc' : w + c.dr < u := by omega
        simp [p1, hi0, q3, q4, hc, hc', hz]
    · have hz : i = 0 := by omega
      simp [p1, hi0, hz]
  have t2 : G.grows_1l0l2t1 e1' = .ok (!(decide (j = 0) || decide (at2 T i j ≤ at2 T i (j - 1) + c.ad))) e1' := by
    show G.grows_1l0l2t1 (grE c a b T i j (some (.v (.int (at2 T i j)))) x10) = .ok _ (grE c a b T i j (some (.v (.int (at2 T i j)))) x10)
    unfold G.grows_1l0l2t1 grE
    by_cases hj0 : 0 < j
    · have q4 := hT.ix hi (show j - 1 < b.length + 1 by omega)
      rw [← sub1 hj0] at q4
      have hz : ¬ j = 0 := by omega
      generalize tt T = Q at *
      generalize ti (T.getD i []) = R at *
      generalize at2 T i j = u at *
      generalize at2 T i (j - 1) = w at *
      by_cases hc : u ≤ w + c.ad
      · have hc' : ¬ w + c.ad < u := by omega
        simp [p2, hj0, r1, q4, hc, hc', hz]
      · have hc' : w + c.ad < u := by omega
        simp [p2, hj0, r1, q4, hc, hc', hz]
    · have hz : j = 0 := by omega
      simp [p2, hj0, hz]
  have t3 : G.grows_1l0l3t1 e1' = .ok (decide (0 < i) && decide (0 < j)) e1' := by
    show G.grows_1l0l3t1 (grE c a b T i j (some (.v (.int (at2 T i j)))) x10) = .ok _ (grE c a b T i j (some (.v (.int (at2 T i j)))) x10)
    unfold G.grows_1l0l3t1 grE
    by_cases hi0 : 0 < i <;> by_cases hj0 : 0 < j <;> simp [p1, p2, hi0, hj0]
  unfold G.grows_1l0L1 growB
  rw [seq_nxt s0]
  cases g1 : (decide (i = 0) || decide (at2 T i j ≤ at2 T (i - 1) j + c.dr)) with
  | false =>
    rw [g1] at t1
    rw [Bool.false_and, if_neg (by simp)]
    exact ⟨e1', seq_ret'' (by unfold G.grows_1l0l1; rw [s_sIf, t1]; simp)⟩
  | true =>
    rw [g1] at t1
    rw [Bool.true_and]
    rw [seq_nxt (e' := e1') (by unfold G.grows_1l0l1; rw [s_sIf, t1]; simp)]
    cases g2 : (decide (j = 0) || decide (at2 T i j ≤ at2 T i (j - 1) + c.ad)) with
    | false =>
      rw [g2] at t2
      rw [Bool.false_and, if_neg (by simp)]
      exact ⟨e1', seq_ret'' (by unfold G.grows_1l0l2; rw [s_sIf, t2]; simp)⟩
    | true =>
      rw [g2] at t2
      rw [Bool.true_and]
      rw [seq_nxt (e' := e1') (by unfold G.grows_1l0l2; rw [s_sIf, t2]; simp)]
      unfold G.grows_1l0l3
      rw [s_sIf, t3]
      by_cases hij : 0 < i ∧ 0 < j
      · obtain ⟨hi0, hj0⟩ := hij
        have q1 := ti_sg a (show i - 1 < a.length by omega)
        have q2 := ti_sg b (show j - 1 < b.length by omega)
        have q3 := hT.sq (show i - 1 < a.length + 1 by omega)
        have q4 := hT.ix (show i - 1 < a.length + 1 by omega) (show j - 1 < b.length + 1 by omega)
        rw [← sub1 hi0] at q1 q3
        rw [← sub1 hj0] at q2 q4
        have zi : ¬ i = 0 := by omega
        have zj : ¬ j = 0 := by omega
        simp only [hi0, hj0, decide_true, Bool.true_and, if_true, zi, zj, decide_false, Bool.false_or]
        have s3 : G.grows_1l0l3a0 e1' = .nxt (grE c a b T i j (some (.v (.int (at2 T i j)))) (some (.v (.int (stp c a b (i - 1) (j - 1)))))) := by
          show G.grows_1l0l3a0 (grE c a b T i j (some (.v (.int (at2 T i j)))) x10) = _
          unfold G.grows_1l0l3a0 grE stp
          generalize tt T = Q at *
          generalize ti a = A at *
          generalize ti b = B at *
          by_cases hs : sg a (i - 1) = sg b (j - 1)
          · simp [q1, q2, hs]
          · simp [q1, q2, hs]
        rw [seq_nxt s3]
        have t4 : G.grows_1l0l3a1t1 (grE c a b T i j (some (.v (.int (at2 T i j)))) (some (.v (.int (stp c a b (i - 1) (j - 1)))))) = .ok (!decide (at2 T i j ≤ at2 T (i - 1) (j - 1) + stp c a b (i - 1) (j - 1))) (grE c a b T i j (some (.v (.int (at2 T i j)))) (some (.v (.int (stp c a b (i - 1) (j - 1)))))) := by
          unfold G.grows_1l0l3a1t1 grE
          generalize tt T = Q at *
          generalize ti (T.getD (i - 1) []) = R at *
          generalize at2 T i j = u at *
          generalize at2 T (i - 1) (j - 1) = w at *
          generalize stp c a b (i - 1) (j - 1) = z at *
          by_cases hc : u ≤ w + z
          · have hc' : ¬ w + z < u := by omega
            simp [q3, q4, hc, hc']
          · have hc' : w + z < u := by omega
            simp [q3, q4, hc, hc']
        unfold G.grows_1l0l3a1
        rw [s_sIf, t4]
        by_cases hc : at2 T i j ≤ at2 T (i - 1) (j - 1) + stp c a b (i - 1) (j - 1)
        · rw [decide_eq_true hc]
          simp only [if_true]
          exact ⟨_, _, rfl⟩
        · rw [decide_eq_false hc]
          simp only [Bool.false_eq_true, if_false]
          exact ⟨_, rfl⟩
      · have hq : (decide (0 < i) && decide (0 < j)) = false := by
          rw [Bool.and_eq_false_iff, decide_eq_false_iff_not, decide_eq_false_iff_not]; omega
        have hq2 : (decide (i = 0) || decide (j = 0) || decide (at2 T i j ≤ at2 T (i - 1) (j - 1) + stp c a b (i - 1) (j - 1))) = true := by
          simp only [Bool.or_eq_true, decide_eq_true_eq]; omega
        rw [hq, hq2]
        simp only [Bool.false_eq_true, if_false, if_true]
        exact ⟨_, _, rfl⟩
theorem grows_ok {c : Cst} {a b : List Int} (ha : a.length ≤ 8) (hb : b.length ≤ 8) {T : List (List Int)} (hT : Rc (a.length + 1) (b.length + 1) T) : G.F_grows [.v (ti a), .v (ti b), .v (csD c), .v (tt T)] = .ok (.v (.bl (growsB c a b T))) [] := by
  suffices hz : ∃ e', G.c_grows [some (.v (ti a)), some (.v (ti b)), some (.v (csD c)), some (.v (tt T)), none, none, none, none, none, none, none] = .ret (.v (.bl (growsB c a b T))) e' by
    obtain ⟨e', hz⟩ := hz
    exact run_of (os := []) hz rfl
  let I : En → Prop := fun e => ∃ x7 x8 x9 x10, e = [some (.v (ti a)), some (.v (ti b)), some (.v (csD c)), some (.v (tt T)), some (.v (.int c.dr)), some (.v (.int c.ad)), some (.v (.int c.ch)), x7, x8, x9, x10]
  have h0 : G.grows_0 [some (.v (ti a)), some (.v (ti b)), some (.v (csD c)), some (.v (tt T)), none, none, none, none, none, none, none] = .nxt [some (.v (ti a)), some (.v (ti b)), some (.v (csD c)), some (.v (tt T)), some (.v (.int c.dr)), some (.v (.int c.ad)), some (.v (.int c.ch)), none, none, none, none] := by
    unfold G.grows_0 csD
    generalize ti a = A at *
    generalize ti b = B at *
    generalize tt T = Q at *
    simp
  have la := ti_len' a
  have lb := ti_len' b
  have hit1 : ∀ e, I e → iR1 (e2 oAdd (e1 oLen (eP 0)) (eC (.int 1))) e = .ok ((List.range (a.length + 1)).map nD) e := by
    rintro e ⟨x7, x8, x9, x10, rfl⟩
    refine r1_e ?_ (by omega)
    generalize ti a = A at *
    simp [la, -len_v]
  have hit2 : ∀ e, I e → iR1 (e2 oAdd (e1 oLen (eP 1)) (eC (.int 1))) e = .ok ((List.range (b.length + 1)).map nD) e := by
    rintro e ⟨x7, x8, x9, x10, rfl⟩
    refine r1_e ?_ (by omega)
    generalize ti b = B at *
    simp [lb, -len_v]
  unfold G.c_grows
  rw [seq_nxt h0]
  have hf := forB (g := gN 7) (b := G.grows_1l0) nD I (fun i => (List.range (b.length + 1)).all fun j => growB c a b T i j) (.v (.bl false)) (List.range (a.length + 1)) _ ⟨none, none, none, none, rfl⟩ (by
    rintro i hi e ⟨x7, x8, x9, x10, rfl⟩
    have hi' := List.mem_range.mp hi
    refine ⟨_, rfl, ?_⟩
    have hi2 : I [some (.v (ti a)), some (.v (ti b)), some (.v (csD c)), some (.v (tt T)), some (.v (.int c.dr)), some (.v (.int c.ad)), some (.v (.int c.ch)), some (.v (.int (i : Int))), x8, x9, x10] := ⟨_, _, _, _, rfl⟩
    have hg := forB (g := gN 8) (b := G.grows_1l0L1) nD (fun e => ∃ x8 x9 x10, e = [some (.v (ti a)), some (.v (ti b)), some (.v (csD c)), some (.v (tt T)), some (.v (.int c.dr)), some (.v (.int c.ad)), some (.v (.int c.ch)), some (.v (.int (i : Int))), x8, x9, x10]) (fun j => growB c a b T i j) (.v (.bl false)) (List.range (b.length + 1)) _ ⟨x8, x9, x10, rfl⟩ (by
      rintro j hj e ⟨x8, x9, x10, rfl⟩
      have hj' := List.mem_range.mp hj
      refine ⟨grE c a b T i j x9 x10, rfl, ?_⟩
      have := gr_cell (c := c) hT hi' hj' x9 x10
      cases hq : growB c a b T i j with
      | true =>
        rw [hq, if_pos rfl] at this
        obtain ⟨y9, y10, this⟩ := this
        rw [if_pos rfl]
        exact ⟨_, this, _, _, _, rfl⟩
      | false =>
        rw [hq, if_neg (by simp)] at this
        rw [if_neg (by simp)]
        exact this)
    have hit := hit2 _ hi2
    show if ((List.range (b.length + 1)).all fun j => growB c a b T i j) = true then ∃ e2, G.grows_1l0 [some (.v (ti a)), some (.v (ti b)), some (.v (csD c)), some (.v (tt T)), some (.v (.int c.dr)), some (.v (.int c.ad)), some (.v (.int c.ch)), some (.v (.int (i : Int))), x8, x9, x10] = .nxt e2 ∧ I e2 else ∃ e2, G.grows_1l0 [some (.v (ti a)), some (.v (ti b)), some (.v (csD c)), some (.v (tt T)), some (.v (.int c.dr)), some (.v (.int c.ad)), some (.v (.int c.ch)), some (.v (.int (i : Int))), x8, x9, x10] = .ret (.v (.bl false)) e2
    unfold G.grows_1l0
    rw [s_sFor, hit]
    cases hq : ((List.range (b.length + 1)).all fun j => growB c a b T i j) with
    | true =>
      rw [hq, if_pos rfl] at hg
      obtain ⟨e', hg, y8, y9, y10, rfl⟩ := hg
      rw [if_pos rfl]
      exact ⟨_, hg, _, _, _, _, rfl⟩
    | false =>
      rw [hq, if_neg (by simp)] at hg
      rw [if_neg (by simp)]
      exact hg)
  have hit := hit1 _ ⟨none, none, none, none, rfl⟩
  have hgb : (List.range (a.length + 1)).all (fun i => (List.range (b.length + 1)).all fun j => growB c a b T i j) = growsB c a b T := rfl
  rw [hgb] at hf
  cases hq : growsB c a b T with
  | true =>
    rw [hq, if_pos rfl] at hf
    obtain ⟨e', hf, _⟩ := hf
    refine ⟨e', ?_⟩
    rw [seq_nxt (by unfold G.grows_1; rw [s_sFor, hit]; exact hf)]
    rfl
  | false =>
    rw [hq, if_neg (by simp)] at hf
    obtain ⟨e', hf⟩ := hf
    exact ⟨e', seq_ret'' (by unfold G.grows_1; rw [s_sFor, hit]; exact hf)⟩
end Fx
end

section
set_option linter.all false
set_option maxRecDepth 10000
/-! Hg: both judges of papers of edits. -/
namespace Fx
def isS : D → Bool
  | .str _ => true
  | _ => false
def D.sv : D → String
  | .str s => s
  | _ => ""
theorem strs_back {l : List D} (h : l.all isS = true) : l = (l.map D.sv).map .str := by
  induction l with
  | nil => rfl
  | cons a l ih =>
    simp only [List.all_cons, Bool.and_eq_true] at h
    rw [List.map_cons, List.map_cons, ← ih h.2]
    cases a <;> first | rfl | (cases h.1)
def valT (c : Cst) (a b : List Int) (k : Int) (t : D) : Bool :=
  isTabI (a.length + 1) (b.length + 1) t && ((decide (at2 (tabOf t) 0 0 = 0) && decide (at2 (tabOf t) a.length b.length = k)) && growsB c a b (tabOf t))
def valE (c : Cst) (a b : List Int) : D → Bool
  | .tup [.int k, .tup ws, t] => ws.all isS && (D.eq (costD c a b (ws.map D.sv)) (.int k) && valT c a b k t)
  | _ => false
def shE : D → Bool
  | .tup [.int _, .tup _, _] => true
  | _ => false
theorem shE_eq {d : D} (h : shE d = true) : ∃ k ws t, d = .tup [.int k, .tup ws, t] := by
  unfold shE at h
  split at h
  · exact ⟨_, _, _, rfl⟩
  · cases h
theorem valE_sh {c : Cst} {a b : List Int} {d : D} (h : shE d = false) : valE c a b d = false := by
  unfold valE
  split
  · cases h
  · rfl
theorem neg1_gen (l : List D) (n : Nat) (h : l.length = n + 1) : oIx (.v (.tup l)) (.v (.int (-1))) = oIx (.v (.tup l)) (.v (.int (n : Int))) := by
  have hne : l ≠ [] := by intro z; rw [z] at h; cases h
  have e := List.dropLast_concat_getLast hne
  rw [← e, ix_neg1t, ix_tup _ n (by rw [e]; omega)]
  congr 2
  have hd : l.dropLast.length = n := by rw [List.length_dropLast, h]; rfl
  rw [List.getElem_append_right (by omega)]
  simp [hd]
theorem Rc.sqL {n m : Nat} {T : List (List Int)} (h : Rc (n + 1) m T) : oIx (.v (tt T)) (.v (.int (-1))) = some (.v (ti (T.getD n []))) := by
  unfold tt
  rw [neg1_gen _ n (by rw [List.length_map]; exact h.len)]
  exact h.sq (by omega)
theorem Rc.rlen {n m : Nat} {T : List (List Int)} (h : Rc n m T) {i : Nat} (hi : i < n) : (T.getD i []).length = m := by
  have hl := h.len
  have hi' : i < T.length := by omega
  have : T.getD i [] = T[i] := by simp [List.getD, hi']
  rw [this]
  exact h.row _ (List.getElem_mem hi')
theorem Rc.ixL {n m : Nat} {T : List (List Int)} (h : Rc n (m + 1) T) {i : Nat} (hi : i < n) : oIx (.v (ti (T.getD i []))) (.v (.int (-1))) = some (.v (.int (at2 T i m))) := by
  have := h.rlen hi
  unfold ti
  rw [neg1_gen _ m (by rw [List.length_map]; exact this)]
  exact h.ix hi (by omega)
theorem neg_1 : oNeg (.v (.int 1)) = some (.v (.int (-1))) := rfl
theorem ix3_0 (a b c : D) : oIx (.v (.tup [a, b, c])) (.v (.int 0)) = some (.v a) := rfl
theorem ix3_1 (a b c : D) : oIx (.v (.tup [a, b, c])) (.v (.int 1)) = some (.v b) := rfl
theorem ix3_2 (a b c : D) : oIx (.v (.tup [a, b, c])) (.v (.int 2)) = some (.v c) := rfl
theorem isI_ff {d : D} (h : isI d = false) : G.F_is_integer [.v d] = .ok (.v (.bl false)) [] := by rw [is_integer_ok, isI_isA, h]
theorem isI_tt {d : D} (h : isI d = true) : G.F_is_integer [.v d] = .ok (.v (.bl true)) [] := by rw [is_integer_ok, isI_isA, h]
def teE (c : Cst) (a b : List Int) (d : D) (x4 : Option Vl) : En := [some (.v (ti a)), some (.v (ti b)), some (.v (csD c)), some (.v d), x4, none]
theorem te1 (c : Cst) (a b : List Int) (d : D) : G.takes_edit_1t1 (teE c a b d none) = .ok (!shE d) (teE c a b d none) := by
  unfold G.takes_edit_1t1 teE
  generalize ti a = A at *
  generalize ti b = B at *
  generalize csD c = Z at *
  cases d with
  | tup l =>
    have hA : (D.tup l).isA .tTuple = true := rfl
    match l with
    | [] => simp [hA, shE]
    | [_] => simp [hA, shE]
    | [_, _] => simp [hA, shE]
    | [x, y, z] =>
      cases hx : isI x with
      | false =>
        have hs : shE (.tup [x, y, z]) = false := by cases x <;> first | rfl | (cases hx)
        simp [hA, ix3_0, isI_ff hx, hs]
      | true =>
        have := isI_tt hx
        cases y with
        | tup ws =>
          have hs : shE (.tup [x, .tup ws, z]) = true := by cases x <;> first | rfl | (cases hx)
          simp [hA, ix3_0, ix3_1, this, hs, D.isA]
        | _ =>
          have hs : ∀ y, y.isA .tTuple = false → shE (.tup [x, y, z]) = false := fun y hy => by cases x <;> first | rfl | (cases y <;> first | rfl | (cases hy))
          rw [hs _ rfl]
          simp [hA, ix3_0, ix3_1, this, D.isA]
    | _ :: _ :: _ :: _ :: l =>
      have : ¬ ((l.length : Int) + 1 + 1 + 1 + 1 = 3) := by omega
      simp [hA, this, shE]
  | _ => simp [D.isA, shE]
theorem te2 (c : Cst) (a b : List Int) (k : Int) (ws : List D) (t : D) (hw : ws.length ≤ 1000) : G.takes_edit_2t1 (teE c a b (.tup [.int k, .tup ws, t]) none) = .ok (!(ws.all isS && D.eq (costD c a b (ws.map D.sv)) (.int k))) (teE c a b (.tup [.int k, .tup ws, t]) none) := by
  have hc := comp0 (vs := [5]) (it := iL (eIxP 3 (eC (.int 1)))) (g := gN 5) (x := e1 oNot (e1 (oIsA .tStr) (eP 5))) (e := teE c a b (.tup [.int k, .tup ws, t]) none) (e1 := teE c a b (.tup [.int k, .tup ws, t]) none) ws id (fun d => .bl (!isS d)) (teE c a b (.tup [.int k, .tup ws, t]) none) (fun d => [some (.v (ti a)), some (.v (ti b)), some (.v (csD c)), some (.v (.tup [.int k, .tup ws, t])), none, some (.v d)]) (by unfold teE; simp [ix3_1]) (by unfold lim; omega) rfl rfl (fun d hd => ⟨rfl, ⟨.v (.bl (!isS d)), by
      have : d.isA .tStr = isS d := by cases d <;> rfl
      simp [this], rfl⟩, rfl⟩)
  have ha := bools_not isS ws
  unfold G.takes_edit_2t1
  generalize eComp [5] (iL (eIxP 3 (eC (.int 1)))) (gN 5) tYes (e1 oNot (e1 (oIsA .tStr) (eP 5))) = Y at hc ⊢
  generalize ws.map (fun d => D.bl (!isS d)) = R at *
  cases hs : ws.all isS with
  | false =>
    rw [hs] at ha
    generalize teE c a b (.tup [.int k, .tup ws, t]) none = e at *
    simp [hc, ha]
  | true =>
    rw [hs] at ha
    have hz := script_cost_ok c a b (ws.map D.sv)
    rw [← strs_back hs] at hz
    have hn := oNe_sm (costD c a b (ws.map D.sv)) (.int k) (by simp [D.dep])
    generalize costD c a b (ws.map D.sv) = cc at *
    generalize D.eq cc (.int k) = q at *
    unfold teE at hc ⊢
    generalize ti a = A at *
    generalize ti b = B at *
    generalize csD c = Z at *
    simp [hc, ha, ix3_0, ix3_1, hz, hn]
theorem te4 (c : Cst) (a b : List Int) (ha : a.length ≤ 8) (hb : b.length ≤ 8) (k : Int) (W t : D) {q w : Nat} (ht : Bd q w t) (hw : w ≤ 1000) :
    G.takes_edit_4t1 (teE c a b (.tup [.int k, W, t]) (some (.v t))) = .ok (!(isTabI (a.length + 1) (b.length + 1) t && (decide (at2 (tabOf t) 0 0 = 0) && decide (at2 (tabOf t) a.length b.length = k)))) (teE c a b (.tup [.int k, W, t]) (some (.v t))) := by
  have h1 := is_table_ok t ht hw (a.length + 1) (b.length + 1)
  have la := ti_len' a
  have lb := ti_len' b
  unfold G.takes_edit_4t1
  cases hi : isTabI (a.length + 1) (b.length + 1) t with
  | false =>
    rw [hi] at h1
    unfold teE
    generalize ti a = A at *
    generalize ti b = B at *
    generalize csD c = Z at *
    have h1' : G.F_is_table [.v t, .v (.int ((a.length : Int) + 1)), .v (.int ((b.length : Int) + 1))] = .ok (.v (.bl false)) [] := h1
    simp [la, lb, h1', -len_v]
  | true =>
    rw [hi] at h1
    obtain ⟨te, tl, tr⟩ := isTabI_eq hi
    have hT : Rc (a.length + 1) (b.length + 1) (tabOf t) := ⟨tl, tr⟩
    have q1 : oIx (.v (tt (tabOf t))) (.v (.int 0)) = some (.v (ti ((tabOf t).getD 0 []))) := hT.sq (i := 0) (by omega)
    have q2 : oIx (.v (ti ((tabOf t).getD 0 []))) (.v (.int 0)) = some (.v (.int (at2 (tabOf t) 0 0))) := hT.ix (i := 0) (j := 0) (by omega) (by omega)
    have q3 := hT.sqL
    have q4 := hT.ixL (show a.length < a.length + 1 by omega)
    have h1' : G.F_is_table [.v t, .v (.int ((a.length : Int) + 1)), .v (.int ((b.length : Int) + 1))] = .ok (.v (.bl true)) [] := h1
    rw [← te] at q1 q3
    unfold teE
    generalize at2 (tabOf t) 0 0 = u at *
    generalize at2 (tabOf t) a.length b.length = v at *
    generalize ti ((tabOf t).getD 0 []) = R1 at *
    generalize ti ((tabOf t).getD a.length []) = R2 at *
    generalize ti a = A at *
    generalize ti b = B at *
    generalize csD c = Z at *
    by_cases hu : u = 0
    · by_cases hv : v = k
      · simp [la, lb, h1', q1, q2, q3, q4, hu, hv, ix3_0, neg_1, -len_v]
      · simp [la, lb, h1', q1, q2, q3, q4, hu, hv, ix3_0, neg_1, -len_v]
    · simp [la, lb, h1', q1, q2, q3, q4, hu, ix3_0, -len_v]
theorem takes_edit_ok {c : Cst} {a b : List Int} (ha : a.length ≤ 8) (hb : b.length ≤ 8) (hc : c.Ps) (d : D) {q w : Nat} (hd : Bd q w d) (hw : w ≤ 1000) : G.F_takes_edit [.v (ti a), .v (ti b), .v (csD c), .v d] = .ok (.v (.bl (valE c a b d))) [] := by
  suffices hz : ∃ e', G.c_takes_edit (teE c a b d none) = .ret (.v (.bl (valE c a b d))) e' by
    obtain ⟨e', hz⟩ := hz
    exact run_of (os := []) hz rfl
  have hcw := check_words_ok ha hb hc
  have s0 : G.takes_edit_0 (teE c a b d none) = .nxt (teE c a b d none) := by
    unfold G.takes_edit_0 teE
    generalize ti a = A at *
    generalize ti b = B at *
    generalize csD c = Z at *
    simp [hcw]
  unfold G.c_takes_edit
  rw [seq_nxt s0]
  have t1 := te1 c a b d
  cases hs : shE d with
  | false =>
    rw [hs] at t1
    rw [valE_sh hs]
    exact ⟨_, seq_ret'' (by unfold G.takes_edit_1; rw [s_sIf, t1]; simp only [Bool.not_false, if_true]; rfl)⟩
  | true =>
    rw [hs] at t1
    rw [seq_nxt (e' := teE c a b d none) (by unfold G.takes_edit_1; rw [s_sIf, t1]; simp)]
    obtain ⟨k, ws, t, rfl⟩ := shE_eq hs
    have hq : ws.length ≤ 1000 ∧ ∃ q', Bd q' w t := by
      cases q with
      | zero => exact absurd hd bd_zero
      | succ q =>
        have h2 := (bd_tup.mp hd).2
        have h3 := h2 (.tup ws) (by simp)
        refine ⟨?_, q, h2 t (by simp)⟩
        cases q with
        | zero => exact absurd h3 bd_zero
        | succ q => have := (bd_tup.mp h3).1; omega
    obtain ⟨hwl, q', ht⟩ := hq
    have t2 := te2 c a b k ws t hwl
    have t4 := te4 c a b ha hb k (.tup ws) t ht hw
    show ∃ e', _ = Out.ret (.v (.bl (ws.all isS && (D.eq (costD c a b (ws.map D.sv)) (.int k) && valT c a b k t)))) e'
    rw [← Bool.and_assoc]
    cases h2 : (ws.all isS && D.eq (costD c a b (ws.map D.sv)) (.int k)) with
    | false =>
      rw [h2] at t2
      rw [Bool.false_and]
      exact ⟨_, seq_ret'' (by unfold G.takes_edit_2; rw [s_sIf, t2]; simp only [Bool.not_false, if_true]; rfl)⟩
    | true =>
      rw [h2] at t2
      rw [Bool.true_and]
      rw [seq_nxt (e' := teE c a b (.tup [.int k, .tup ws, t]) none) (by unfold G.takes_edit_2; rw [s_sIf, t2]; simp)]
      have s3 : G.takes_edit_3 (teE c a b (.tup [.int k, .tup ws, t]) none) = .nxt (teE c a b (.tup [.int k, .tup ws, t]) (some (.v t))) := by
        unfold G.takes_edit_3 teE
        simp [ix3_2]
      rw [seq_nxt s3]
      unfold valT
      rw [← Bool.and_assoc]
      cases h4 : (isTabI (a.length + 1) (b.length + 1) t && (decide (at2 (tabOf t) 0 0 = 0) && decide (at2 (tabOf t) a.length b.length = k))) with
      | false =>
        rw [h4] at t4
        rw [Bool.false_and]
        exact ⟨_, seq_ret'' (by unfold G.takes_edit_4; rw [s_sIf, t4]; simp only [Bool.not_false, if_true]; rfl)⟩
      | true =>
        rw [h4] at t4
        rw [Bool.true_and]
        rw [seq_nxt (e' := teE c a b (.tup [.int k, .tup ws, t]) (some (.v t))) (by unfold G.takes_edit_4; rw [s_sIf, t4]; simp)]
        have hi : isTabI (a.length + 1) (b.length + 1) t = true := (Bool.and_eq_true_iff.mp h4).1
        obtain ⟨te, tl, tr⟩ := isTabI_eq hi
        have hg := grows_ok (c := c) ha hb ⟨tl, tr⟩
        rw [← te] at hg
        refine ⟨teE c a b (.tup [.int k, .tup ws, t]) (some (.v t)), ?_⟩
        unfold G.takes_edit_5 teE
        generalize ti a = A at *
        generalize ti b = B at *
        generalize csD c = Z at *
        simp [hg]
end Fx
end

section
set_option linter.all false
set_option maxRecDepth 10000
namespace Fx
def oom (T : List (List Int)) : List (List D) := T.map fun r => r.map D.int
theorem ixN_nat {n i : Nat} (h : i < n) : ixN n (i : Int) = some i := by
  unfold ixN
  rw [if_pos (by omega), if_pos (by omega)]
  simp
theorem oom_get {n : Nat} {T : List (List Int)} (h : Sq n T) {i : Nat} (hi : i < n) : (oom T)[i]? = some ((T.getD i []).map D.int) := by
  unfold oom
  rw [List.getElem?_map, get_of (by rw [h.len]; exact hi) []]
  rfl
theorem oom_set (T : List (List Int)) (i j : Nat) (v : Int) : (oom T).set i (((T.getD i []).map D.int).set j (.int v)) = oom (set2 T i j v) := by
  unfold oom set2
  rw [List.map_set, List.map_set]
theorem gIx2_ok {n k : Nat} {T : List (List Int)} (h : Sq n T) {f g : N} {e : En} {i j : Nat} (hk : e[k]? = some (some (.oo (oom T)))) (hf : f e = some (i : Int)) (hg : g e = some (j : Int)) (hi : i < n) (hj : j < n) (v : Int) :
    gIx2 k f g (.int v) e = some (e.set k (some (.oo (oom (set2 T i j v))))) := by
  have hl : (oom T).length = n := by unfold oom; rw [List.length_map]; exact h.len
  have hr : ((T.getD i []).map D.int).length = n := by rw [List.length_map]; exact h.row i hi
  unfold gIx2
  simp only [hk, hf, hg, hl, ixN_nat hi, Option.bind_some, oom_get h hi, hr, ixN_nat hj, Option.map_some, oom_set]
theorem eIxPP_ok {n k : Nat} {T : List (List Int)} (h : Sq n T) {f g : N} {e : En} {i j : Nat} (hk : e[k]? = some (some (.oo (oom T)))) (hf : f e = some (i : Int)) (hg : g e = some (j : Int)) (hi : i < n) (hj : j < n) :
    eIxPP k f g e = .ok (.v (.int (at2 T i j))) e := by
  have hl : (oom T).length = n := by unfold oom; rw [List.length_map]; exact h.len
  unfold eIxPP
  simp only [hk, hf, hg]
  rw [atD_nat, oom_get h hi, Option.bind_some, atD_nat, List.getElem?_map, get_of (by rw [h.row i hi]; exact hj) 0]
  rfl
end Fx
end

section
set_option linter.all false
set_option maxRecDepth 10000
namespace Fx
/-- what is written so far is above 0 -/
def Pz (n i j : Nat) (T : List (List Int)) : Prop := ∀ a b, a < n → b < a → (a < i ∨ (a = i ∧ b < j)) → 0 < at2 T a b
end Fx
end

section
set_option linter.all false
set_option maxRecDepth 10000
namespace Fx
/-! shortest ways -/
def fM (k : Nat) (f : Nat → Nat → Int) : Nat → Nat → Int := fun i j => min (f i j) (f i k + f k j)
def flF : Nat → (Nat → Nat → Int) → (Nat → Nat → Int)
  | 0, f => f
  | k + 1, f => fM k (flF k f)
/-- not below 0, 0 at home -/
structure Nn (n : Nat) (f : Nat → Nat → Int) : Prop where
  pos : ∀ i j, i < n → j < n → 0 ≤ f i j
  dg : ∀ i, i < n → f i i = 0
theorem nn_fM {n k : Nat} {f : Nat → Nat → Int} (h : Nn n f) (hk : k < n) : Nn n (fM k f) := by
  refine ⟨fun i j hi hj => ?_, fun i hi => ?_⟩
  · unfold fM
    have h1 := h.pos i j hi hj
    have h2 := h.pos i k hi hk
    have h3 := h.pos k j hk hj
    omega
  · unfold fM
    have h1 := h.dg i hi
    have h2 := h.pos i k hi hk
    have h3 := h.pos k i hk hi
    omega
theorem nn_fl {n : Nat} {f : Nat → Nat → Int} (h : Nn n f) : ∀ k, k ≤ n → Nn n (flF k f)
  | 0, _ => h
  | k + 1, hk => nn_fM (nn_fl h k (by omega)) (by omega)
theorem fl_le {n : Nat} {f : Nat → Nat → Int} : ∀ k i j, flF k f i j ≤ f i j
  | 0, i, j => Int.le_refl _
  | k + 1, i, j => by
    have := fl_le (n := n) (f := f) k i j
    unfold flF fM
    omega
theorem fl_tri {n : Nat} {f : Nat → Nat → Int} (h : Nn n f) : ∀ k, k ≤ n → ∀ m, m < k → ∀ i j, i < n → j < n → flF k f i j ≤ flF k f i m + flF k f m j
  | 0, _, m, hm, _, _, _, _ => by omega
  | k + 1, hk, m, hm, i, j, hi, hj => by
    have ih := fl_tri h k (by omega)
    have nn := nn_fl h k (by omega)
    unfold flF fM
    by_cases hmk : m = k
    · subst hmk
      have d := nn.dg m (by omega)
      omega
    · have hm' : m < k := by omega
      have hmn : m < n := by omega
      have hkn : k < n := by omega
      have a1 := ih m hm' i j hi hj
      have a2 := ih m hm' k j hkn hj
      have a3 := ih m hm' i k hi hkn
      have p1 := nn.pos k m hkn hmn
      have p2 := nn.pos m k hmn hkn
      omega
theorem fl_sym {n : Nat} {f : Nat → Nat → Int} (hs : ∀ i j, i < n → j < n → f i j = f j i) : ∀ k, k ≤ n → ∀ i j, i < n → j < n → flF k f i j = flF k f j i
  | 0, _, i, j, hi, hj => hs i j hi hj
  | k + 1, hk, i, j, hi, hj => by
    have ih := fl_sym hs k (by omega)
    unfold flF fM
    have a1 := ih i j hi hj
    have a2 := ih i k hi (by omega)
    have a3 := ih k j (by omega) hj
    omega
theorem fl_above {n : Nat} {f g : Nat → Nat → Int} (ht : ∀ m i j, m < n → i < n → j < n → g i j ≤ g i m + g m j) (hg : ∀ i j, i < n → j < n → g i j ≤ f i j) : ∀ k, k ≤ n → ∀ i j, i < n → j < n → g i j ≤ flF k f i j
  | 0, _, i, j, hi, hj => hg i j hi hj
  | k + 1, hk, i, j, hi, hj => by
    have ih := fl_above ht hg k (by omega)
    unfold flF fM
    have a1 := ih i j hi hj
    have a2 := ih i k hi (by omega)
    have a3 := ih k j (by omega) hj
    have a4 := ht k i j (by omega) hi hj
    omega
theorem fl_pos {n : Nat} {f : Nat → Nat → Int} (h : Nn n f) (hp : ∀ i j, i < n → j < n → i ≠ j → 0 < f i j) : ∀ k, k ≤ n → ∀ i j, i < n → j < n → i ≠ j → 0 < flF k f i j
  | 0, _, i, j, hi, hj, hij => hp i j hi hj hij
  | k + 1, hk, i, j, hi, hj, hij => by
    have ih := fl_pos h hp k (by omega)
    have nn := nn_fl h k (by omega)
    unfold flF fM
    have a1 := ih i j hi hj hij
    by_cases hik : i = k
    · subst hik
      have d := nn.dg i hi
      omega
    · have a2 := ih i k hi (by omega) hik
      have a3 := nn.pos k j (by omega) hj
      omega
/-! the same in a table -/
def fS (k i : Nat) (T : List (List Int)) (j : Nat) : List (List Int) := set2 T i j (min (at2 T i j) (at2 T i k + at2 T k j))
def fR (k n : Nat) (T : List (List Int)) (i : Nat) : List (List Int) := (List.range n).foldl (fS k i) T
def fT (n : Nat) (T : List (List Int)) (k : Nat) : List (List Int) := (List.range n).foldl (fR k n) T
def floyd (n : Nat) (T : List (List Int)) : List (List Int) := (List.range n).foldl (fT n) T
theorem foldl_succ {α : Type} (f : α → Nat → α) (a : α) (m : Nat) : (List.range (m + 1)).foldl f a = f ((List.range m).foldl f a) m := by
  rw [List.range_succ, List.foldl_append]
  rfl
theorem fS_row {n k i : Nat} {T : List (List Int)} (h : Sq n T) (hk : k < n) (hi : i < n) (hd : at2 T k k = 0) : ∀ m, m ≤ n → Sq n ((List.range m).foldl (fS k i) T) ∧ ∀ a b, a < n → b < n → at2 ((List.range m).foldl (fS k i) T) a b = if a = i ∧ b < m then min (at2 T a b) (at2 T a k + at2 T k b) else at2 T a b
  | 0, _ => ⟨h, fun a b _ _ => by simp⟩
  | m + 1, hm => by
    obtain ⟨sq, at'⟩ := fS_row h hk hi hd m (by omega)
    rw [foldl_succ]
    refine ⟨sq_set2 sq i m _, fun a b ha hb => ?_⟩
    show at2 (set2 _ i m (min (at2 ((List.range m).foldl (fS k i) T) i m) (at2 ((List.range m).foldl (fS k i) T) i k + at2 ((List.range m).foldl (fS k i) T) k m))) a b = _
    rw [at_set2 sq hi (by omega)]
    have e1 := at' i m hi (by omega)
    have e2 := at' i k hi hk
    have e3 := at' k m hk (by omega)
    have e4 := at' a b ha hb
    rw [e1, e2, e3, e4]
    by_cases hai : a = i
    · subst hai
      by_cases hbm : b = m
      · subst hbm
        simp only [true_and, Nat.lt_irrefl, and_false, if_false, if_true, Nat.lt_succ_self]
        have : (if k < b then min (at2 T a k) (at2 T a k + at2 T k k) else at2 T a k) = at2 T a k := by split <;> omega
        rw [this]
      · have hc : (b < m + 1) = (b < m) := by
          apply propext; omega
        simp [hbm, hc]
    · simp [hai]
theorem fR_tab {n k : Nat} {T : List (List Int)} (h : Sq n T) (hk : k < n) (hd : at2 T k k = 0) : ∀ m, m ≤ n → Sq n ((List.range m).foldl (fR k n) T) ∧ ∀ a b, a < n → b < n → at2 ((List.range m).foldl (fR k n) T) a b = if a < m then min (at2 T a b) (at2 T a k + at2 T k b) else at2 T a b
  | 0, _ => ⟨h, fun a b _ _ => by simp⟩
  | m + 1, hm => by
    obtain ⟨sq, at'⟩ := fR_tab h hk hd m (by omega)
    rw [foldl_succ]
    have hkk : at2 ((List.range m).foldl (fR k n) T) k k = 0 := by
      rw [at' k k hk hk]
      split <;> omega
    obtain ⟨sq2, at2'⟩ := fS_row sq hk (show m < n by omega) hkk n (Nat.le_refl n)
    refine ⟨sq2, fun a b ha hb => ?_⟩
    show at2 (List.foldl (fS k m) ((List.range m).foldl (fR k n) T) (List.range n)) a b = _
    rw [at2' a b ha hb]
    have e1 := at' a b ha hb
    have e2 := at' a k ha hk
    have e3 := at' k b hk hb
    rw [e1, e2, e3]
    by_cases ham : a = m
    · subst ham
      simp only [hb, and_self, if_true, Nat.lt_irrefl, if_false, Nat.lt_succ_self]
      have : (if k < a then min (at2 T k b) (at2 T k k + at2 T k b) else at2 T k b) = at2 T k b := by split <;> omega
      rw [this]
    · have hc : (a < m + 1) = (a < m) := by apply propext; omega
      simp [ham, hc]
theorem fT_tab {n : Nat} {T : List (List Int)} (h : Sq n T) (hn : Nn n (at2 T)) : ∀ m, m ≤ n → Sq n ((List.range m).foldl (fT n) T) ∧ ∀ a b, a < n → b < n → at2 ((List.range m).foldl (fT n) T) a b = flF m (at2 T) a b
  | 0, _ => ⟨h, fun a b _ _ => rfl⟩
  | m + 1, hm => by
    obtain ⟨sq, at'⟩ := fT_tab h hn m (by omega)
    rw [foldl_succ]
    have hmn : m < n := by omega
    obtain ⟨sq2, at2'⟩ := fR_tab sq hmn (by rw [at' m m hmn hmn]; exact (nn_fl hn m (by omega)).dg m hmn) n (Nat.le_refl n)
    refine ⟨sq2, fun a b ha hb => ?_⟩
    show at2 (List.foldl (fR m n) ((List.range m).foldl (fT n) T) (List.range n)) a b = _
    rw [at2' a b ha hb, if_pos ha, at' a b ha hb, at' a m ha hmn, at' m b hmn hb]
    rfl
theorem floyd_at {n : Nat} {T : List (List Int)} (h : Sq n T) (hn : Nn n (at2 T)) : Sq n (floyd n T) ∧ ∀ a b, a < n → b < n → at2 (floyd n T) a b = flF n (at2 T) a b := fT_tab h hn n (Nat.le_refl n)
theorem sq_ext {A B : List (List Int)} {n : Nat} (hA : Sq n A) (hB : Sq n B) (h : ∀ i, i < n → ∀ j, j < n → at2 A i j = at2 B i j) : A = B := by
  have l1 := hA.len
  have l2 := hB.len
  refine List.ext_getElem (by omega) fun i h1 h2 => ?_
  have a1 := hA.row i (by omega)
  have b1 := hB.row i (by omega)
  have ea : A.getD i [] = A[i] := by simp [List.getD, h1]
  have eb : B.getD i [] = B[i] := by simp [List.getD, h2]
  rw [ea] at a1
  rw [eb] at b1
  refine List.ext_getElem (by omega) fun j h3 h4 => ?_
  have := h i (by omega) j (by omega)
  unfold at2 at this
  rw [ea, eb] at this
  simpa [List.getD, h3, h4] using this
theorem floyd_id {n : Nat} {T : List (List Int)} (h : Sq n T) (hn : Nn n (at2 T)) (ht : ∀ m i j, m < n → i < n → j < n → at2 T i j ≤ at2 T i m + at2 T m j) : floyd n T = T := by
  obtain ⟨s, e⟩ := floyd_at h hn
  refine sq_ext s h fun i hi j hj => ?_
  rw [e i j hi hj]
  refine Int.le_antisymm (fl_le (n := n) n i j) (fl_above ht (fun i j _ _ => Int.le_refl _) n (Nat.le_refl n) i j hi hj)
end Fx
end

section
set_option linter.all false
set_option maxRecDepth 10000
namespace Fx
def tlD : D → List D
  | .tup r => r
  | _ => []
def ltD : D → D
  | .lst r => .tup r
  | d => d
theorem oom_len {n : Nat} {T : List (List Int)} (h : T.length = n) : (oom T).length = n := by unfold oom; rw [List.length_map, h]
theorem ti_rows (T : List (List Int)) : ((T.map ti).map tlD) = oom T := by
  unfold oom ti
  rw [List.map_map]
  rfl
theorem oom_rows (T : List (List Int)) : (((oom T).map D.lst).map ltD) = T.map ti := by
  unfold oom ti
  simp [ltD, Function.comp_def]
@[simp] theorem min2_int (a b : Int) : oMin2 (.v (.int a)) (.v (.int b)) = some (.v (.int (min a b))) := by
  unfold oMin2
  dsimp only
  congr 3
  rw [Int.min_def]
  split <;> split <;> omega
@[simp] theorem max2_int (a b : Int) : oMax2 (.v (.int a)) (.v (.int b)) = some (.v (.int (max a b))) := by
  unfold oMax2
  dsimp only
  congr 3
  rw [Int.max_def]
  split <;> split <;> omega
theorem sq_fold {n : Nat} {f : List (List Int) → Nat → List (List Int)} (hf : ∀ T x, Sq n T → Sq n (f T x)) : ∀ (l : List Nat) (T : List (List Int)), Sq n T → Sq n (l.foldl f T)
  | [], _, h => h
  | a :: l, T, h => sq_fold hf l _ (hf T a h)
theorem sq_row {n : Nat} {T : List (List Int)} (h : Sq n T) (k i m : Nat) : Sq n ((List.range m).foldl (fS k i) T) := sq_fold (fun T x h => sq_set2 h _ _ _) _ _ h
theorem sq_rows {n : Nat} {T : List (List Int)} (h : Sq n T) (k m : Nat) : Sq n ((List.range m).foldl (fR k n) T) := sq_fold (fun T x h => sq_row h k x n) _ _ h
theorem sq_tabs {n : Nat} {T : List (List Int)} (h : Sq n T) (m : Nat) : Sq n ((List.range m).foldl (fT n) T) := sq_fold (fun T x h => sq_rows h x n) _ _ h
theorem lsh_j {n : Nat} {T0 T : List (List Int)}  (h : Sq n T) (hn : n ≤ 1000) {k i : Nat} (hk : k < n) (hi : i < n) (rj : Option Vl) : ∃ r, sFor (iR1 (eV 1)) (gN 5) (sTo (gIx2 2 (nV 4) (nV 5)) (e2 oMin2 (eIxPP 2 (nV 4) (nV 5)) (e2 oAdd (eIxPP 2 (nV 4) (nV 3)) (eIxPP 2 (nV 3) (nV 5))))) [some (.v (tt T0)), some (.v (.int (n : Int))), some (.oo (oom T)), (some (.v (.int (k : Int)))), (some (.v (.int (i : Int)))), rj, none] = .nxt [some (.v (tt T0)), some (.v (.int (n : Int))), some (.oo (oom (fR k n T i))), (some (.v (.int (k : Int)))), (some (.v (.int (i : Int)))), r, none] := by
  obtain ⟨e', h1, r, rfl⟩ := forGoR (g := gN 5) (b := sTo (gIx2 2 (nV 4) (nV 5)) (e2 oMin2 (eIxPP 2 (nV 4) (nV 5)) (e2 oAdd (eIxPP 2 (nV 4) (nV 3)) (eIxPP 2 (nV 3) (nV 5)))))
    (fun m e => ∃ r, e = [some (.v (tt T0)), some (.v (.int (n : Int))), some (.oo (oom ((List.range m).foldl (fS k i) T))), (some (.v (.int (k : Int)))), (some (.v (.int (i : Int)))), r, none]) n n 0 [some (.v (tt T0)), some (.v (.int (n : Int))), some (.oo (oom T)), (some (.v (.int (k : Int)))), (some (.v (.int (i : Int)))), rj, none] (by omega) ⟨rj, rfl⟩ (by
      rintro m e hm ⟨r, rfl⟩
      have sq := sq_row h k i m
      refine ⟨_, _, rfl, ?_, some (.v (.int (m : Int))), rfl⟩
      rw [foldl_succ]
      generalize (List.range m).foldl (fS k i) T = U at sq ⊢
      have g1 := eIxPP_ok (k := 2) (f := nV 4) (g := nV 5) (e := [some (.v (tt T0)), some (.v (.int (n : Int))), some (.oo (oom U)), (some (.v (.int (k : Int)))), (some (.v (.int (i : Int)))), (some (.v (.int (m : Int)))), none]) sq rfl rfl rfl hi hm
      have g2 := eIxPP_ok (k := 2) (f := nV 4) (g := nV 3) (e := [some (.v (tt T0)), some (.v (.int (n : Int))), some (.oo (oom U)), (some (.v (.int (k : Int)))), (some (.v (.int (i : Int)))), (some (.v (.int (m : Int)))), none]) sq rfl rfl rfl hi hk
      have g3 := eIxPP_ok (k := 2) (f := nV 3) (g := nV 5) (e := [some (.v (tt T0)), some (.v (.int (n : Int))), some (.oo (oom U)), (some (.v (.int (k : Int)))), (some (.v (.int (i : Int)))), (some (.v (.int (m : Int)))), none]) sq rfl rfl rfl hk hm
      have g4 := gIx2_ok (k := 2) (f := nV 4) (g := nV 5) (e := [some (.v (tt T0)), some (.v (.int (n : Int))), some (.oo (oom U)), (some (.v (.int (k : Int)))), (some (.v (.int (i : Int)))), (some (.v (.int (m : Int)))), none]) sq rfl rfl rfl hi hm (min (at2 U i m) (at2 U i k + at2 U k m))
      simp only [List.set_cons_succ, List.set_cons_zero] at g4
      simp [g1, g2, g3, g4, -s_gIx2, -s_eIxPP, fS])
  rw [← rng_range'] at h1
  refine ⟨r, ?_⟩
  rw [s_sFor, iR1_nat (n := n) (e' := [some (.v (tt T0)), some (.v (.int (n : Int))), some (.oo (oom T)), (some (.v (.int (k : Int)))), (some (.v (.int (i : Int)))), rj, none]) (by simp [oom_len h.len]) (by omega)]
  exact h1
theorem lsh_i {n : Nat} {T0 T : List (List Int)}  (h : Sq n T) (hn : n ≤ 1000) {k : Nat} (hk : k < n) (ri rj : Option Vl) : ∃ r s, sFor (iR1 (eV 1)) (gN 4) (sFor (iR1 (eV 1)) (gN 5) (sTo (gIx2 2 (nV 4) (nV 5)) (e2 oMin2 (eIxPP 2 (nV 4) (nV 5)) (e2 oAdd (eIxPP 2 (nV 4) (nV 3)) (eIxPP 2 (nV 3) (nV 5)))))) [some (.v (tt T0)), some (.v (.int (n : Int))), some (.oo (oom T)), (some (.v (.int (k : Int)))), ri, rj, none] = .nxt [some (.v (tt T0)), some (.v (.int (n : Int))), some (.oo (oom (fT n T k))), (some (.v (.int (k : Int)))), r, s, none] := by
  obtain ⟨e', h1, r, s, rfl⟩ := forGoR (g := gN 4) (b := sFor (iR1 (eV 1)) (gN 5) (sTo (gIx2 2 (nV 4) (nV 5)) (e2 oMin2 (eIxPP 2 (nV 4) (nV 5)) (e2 oAdd (eIxPP 2 (nV 4) (nV 3)) (eIxPP 2 (nV 3) (nV 5))))))
    (fun m e => ∃ r s, e = [some (.v (tt T0)), some (.v (.int (n : Int))), some (.oo (oom ((List.range m).foldl (fR k n) T))), (some (.v (.int (k : Int)))), r, s, none]) n n 0 [some (.v (tt T0)), some (.v (.int (n : Int))), some (.oo (oom T)), (some (.v (.int (k : Int)))), ri, rj, none] (by omega) ⟨ri, rj, rfl⟩ (by
      rintro m e hm ⟨r, s, rfl⟩
      obtain ⟨s', hs⟩ := lsh_j (T0 := T0) (sq_rows h k m) hn hk hm s
      refine ⟨_, _, rfl, ?_, some (.v (.int (m : Int))), s', rfl⟩
      rw [foldl_succ]
      exact hs)
  rw [← rng_range'] at h1
  refine ⟨r, s, ?_⟩
  rw [s_sFor, iR1_nat (n := n) (e' := [some (.v (tt T0)), some (.v (.int (n : Int))), some (.oo (oom T)), (some (.v (.int (k : Int)))), ri, rj, none]) (by simp [oom_len h.len]) (by omega)]
  exact h1
theorem lsh_k {n : Nat} {T0 T : List (List Int)}  (h : Sq n T) (hn : n ≤ 1000) (rk ri rj : Option Vl) : ∃ q r s, sFor (iR1 (eV 1)) (gN 3) (sFor (iR1 (eV 1)) (gN 4) (sFor (iR1 (eV 1)) (gN 5) (sTo (gIx2 2 (nV 4) (nV 5)) (e2 oMin2 (eIxPP 2 (nV 4) (nV 5)) (e2 oAdd (eIxPP 2 (nV 4) (nV 3)) (eIxPP 2 (nV 3) (nV 5))))))) [some (.v (tt T0)), some (.v (.int (n : Int))), some (.oo (oom T)), rk, ri, rj, none] = .nxt [some (.v (tt T0)), some (.v (.int (n : Int))), some (.oo (oom (floyd n T))), q, r, s, none] := by
  obtain ⟨e', h1, q, r, s, rfl⟩ := forGoR (g := gN 3) (b := sFor (iR1 (eV 1)) (gN 4) (sFor (iR1 (eV 1)) (gN 5) (sTo (gIx2 2 (nV 4) (nV 5)) (e2 oMin2 (eIxPP 2 (nV 4) (nV 5)) (e2 oAdd (eIxPP 2 (nV 4) (nV 3)) (eIxPP 2 (nV 3) (nV 5)))))))
    (fun m e => ∃ q r s, e = [some (.v (tt T0)), some (.v (.int (n : Int))), some (.oo (oom ((List.range m).foldl (fT n) T))), q, r, s, none]) n n 0 [some (.v (tt T0)), some (.v (.int (n : Int))), some (.oo (oom T)), rk, ri, rj, none] (by omega) ⟨rk, ri, rj, rfl⟩ (by
      rintro m e hm ⟨q, r, s, rfl⟩
      obtain ⟨r', s', hs⟩ := lsh_i (T0 := T0) (sq_tabs h m) hn hm r s
      refine ⟨_, _, rfl, ?_, some (.v (.int (m : Int))), r', s', rfl⟩
      rw [foldl_succ]
      exact hs)
  rw [← rng_range'] at h1
  refine ⟨q, r, s, ?_⟩
  rw [s_sFor, iR1_nat (n := n) (e' := [some (.v (tt T0)), some (.v (.int (n : Int))), some (.oo (oom T)), rk, ri, rj, none]) (by simp [oom_len h.len]) (by omega)]
  exact h1
end Fx
end

section
set_option linter.all false
set_option maxRecDepth 10000
namespace Fx
/-! least greatest steps -/
def fMX (k : Nat) (f : Nat → Nat → Int) : Nat → Nat → Int := fun i j => min (f i j) (max (f i k) (f k j))
def flFX : Nat → (Nat → Nat → Int) → (Nat → Nat → Int)
  | 0, f => f
  | k + 1, f => fMX k (flFX k f)
theorem nn_fMX {n k : Nat} {f : Nat → Nat → Int} (h : Nn n f) (hk : k < n) : Nn n (fMX k f) := by
  refine ⟨fun i j hi hj => ?_, fun i hi => ?_⟩
  · unfold fMX
    have h1 := h.pos i j hi hj
    have h2 := h.pos i k hi hk
    have h3 := h.pos k j hk hj
    omega
  · unfold fMX
    have h1 := h.dg i hi
    have h2 := h.pos i k hi hk
    have h3 := h.pos k i hk hi
    omega
theorem nn_flX {n : Nat} {f : Nat → Nat → Int} (h : Nn n f) : ∀ k, k ≤ n → Nn n (flFX k f)
  | 0, _ => h
  | k + 1, hk => nn_fMX (nn_flX h k (by omega)) (by omega)
theorem fl_leX {n : Nat} {f : Nat → Nat → Int} : ∀ k i j, flFX k f i j ≤ f i j
  | 0, i, j => Int.le_refl _
  | k + 1, i, j => by
    have := fl_leX (n := n) (f := f) k i j
    unfold flFX fMX
    omega
theorem fl_triX {n : Nat} {f : Nat → Nat → Int} (h : Nn n f) : ∀ k, k ≤ n → ∀ m, m < k → ∀ i j, i < n → j < n → flFX k f i j ≤ max (flFX k f i m) (flFX k f m j)
  | 0, _, m, hm, _, _, _, _ => by omega
  | k + 1, hk, m, hm, i, j, hi, hj => by
    have ih := fl_triX h k (by omega)
    have nn := nn_flX h k (by omega)
    unfold flFX fMX
    by_cases hmk : m = k
    · subst hmk
      have d := nn.dg m (by omega)
      omega
    · have hm' : m < k := by omega
      have hmn : m < n := by omega
      have hkn : k < n := by omega
      have a1 := ih m hm' i j hi hj
      have a2 := ih m hm' k j hkn hj
      have a3 := ih m hm' i k hi hkn
      have p1 := nn.pos k m hkn hmn
      have p2 := nn.pos m k hmn hkn
      omega
theorem fl_symX {n : Nat} {f : Nat → Nat → Int} (hs : ∀ i j, i < n → j < n → f i j = f j i) : ∀ k, k ≤ n → ∀ i j, i < n → j < n → flFX k f i j = flFX k f j i
  | 0, _, i, j, hi, hj => hs i j hi hj
  | k + 1, hk, i, j, hi, hj => by
    have ih := fl_symX hs k (by omega)
    unfold flFX fMX
    have a1 := ih i j hi hj
    have a2 := ih i k hi (by omega)
    have a3 := ih k j (by omega) hj
    omega
theorem fl_aboveX {n : Nat} {f g : Nat → Nat → Int} (ht : ∀ m i j, m < n → i < n → j < n → g i j ≤ max (g i m) (g m j)) (hg : ∀ i j, i < n → j < n → g i j ≤ f i j) : ∀ k, k ≤ n → ∀ i j, i < n → j < n → g i j ≤ flFX k f i j
  | 0, _, i, j, hi, hj => hg i j hi hj
  | k + 1, hk, i, j, hi, hj => by
    have ih := fl_aboveX ht hg k (by omega)
    unfold flFX fMX
    have a1 := ih i j hi hj
    have a2 := ih i k hi (by omega)
    have a3 := ih k j (by omega) hj
    have a4 := ht k i j (by omega) hi hj
    omega
theorem fl_posX {n : Nat} {f : Nat → Nat → Int} (h : Nn n f) (hp : ∀ i j, i < n → j < n → i ≠ j → 0 < f i j) : ∀ k, k ≤ n → ∀ i j, i < n → j < n → i ≠ j → 0 < flFX k f i j
  | 0, _, i, j, hi, hj, hij => hp i j hi hj hij
  | k + 1, hk, i, j, hi, hj, hij => by
    have ih := fl_posX h hp k (by omega)
    have nn := nn_flX h k (by omega)
    unfold flFX fMX
    have a1 := ih i j hi hj hij
    by_cases hik : i = k
    · subst hik
      have d := nn.dg i hi
      omega
    · have a2 := ih i k hi (by omega) hik
      have a3 := nn.pos k j (by omega) hj
      omega
/-! the same in a table -/
def fSX (k i : Nat) (T : List (List Int)) (j : Nat) : List (List Int) := set2 T i j (min (at2 T i j) (max (at2 T i k) (at2 T k j)))
def fRX (k n : Nat) (T : List (List Int)) (i : Nat) : List (List Int) := (List.range n).foldl (fSX k i) T
def fTX (n : Nat) (T : List (List Int)) (k : Nat) : List (List Int) := (List.range n).foldl (fRX k n) T
def floydX (n : Nat) (T : List (List Int)) : List (List Int) := (List.range n).foldl (fTX n) T
theorem fS_rowX {n k i : Nat} {T : List (List Int)} (h : Sq n T) (hk : k < n) (hi : i < n) (hd : at2 T k k = 0) : ∀ m, m ≤ n → Sq n ((List.range m).foldl (fSX k i) T) ∧ ∀ a b, a < n → b < n → at2 ((List.range m).foldl (fSX k i) T) a b = if a = i ∧ b < m then min (at2 T a b) (max (at2 T a k) (at2 T k b)) else at2 T a b
  | 0, _ => ⟨h, fun a b _ _ => by simp⟩
  | m + 1, hm => by
    obtain ⟨sq, at'⟩ := fS_rowX h hk hi hd m (by omega)
    rw [foldl_succ]
    refine ⟨sq_set2 sq i m _, fun a b ha hb => ?_⟩
    show at2 (set2 _ i m (min (at2 ((List.range m).foldl (fSX k i) T) i m) (max (at2 ((List.range m).foldl (fSX k i) T) i k) (at2 ((List.range m).foldl (fSX k i) T) k m)))) a b = _
    rw [at_set2 sq hi (by omega)]
    have e1 := at' i m hi (by omega)
    have e2 := at' i k hi hk
    have e3 := at' k m hk (by omega)
    have e4 := at' a b ha hb
    rw [e1, e2, e3, e4]
    by_cases hai : a = i
    · subst hai
      by_cases hbm : b = m
      · subst hbm
        simp only [true_and, Nat.lt_irrefl, and_false, if_false, if_true, Nat.lt_succ_self]
        have : (if k < b then min (at2 T a k) (max (at2 T a k) (at2 T k k)) else at2 T a k) = at2 T a k := by split <;> omega
        rw [this]
      · have hc : (b < m + 1) = (b < m) := by
          apply propext; omega
        simp [hbm, hc]
    · simp [hai]
theorem fR_tabX {n k : Nat} {T : List (List Int)} (h : Sq n T) (hk : k < n) (hd : at2 T k k = 0) : ∀ m, m ≤ n → Sq n ((List.range m).foldl (fRX k n) T) ∧ ∀ a b, a < n → b < n → at2 ((List.range m).foldl (fRX k n) T) a b = if a < m then min (at2 T a b) (max (at2 T a k) (at2 T k b)) else at2 T a b
  | 0, _ => ⟨h, fun a b _ _ => by simp⟩
  | m + 1, hm => by
    obtain ⟨sq, at'⟩ := fR_tabX h hk hd m (by omega)
    rw [foldl_succ]
    have hkk : at2 ((List.range m).foldl (fRX k n) T) k k = 0 := by
      rw [at' k k hk hk]
      split <;> omega
    obtain ⟨sq2, at2'⟩ := fS_rowX sq hk (show m < n by omega) hkk n (Nat.le_refl n)
    refine ⟨sq2, fun a b ha hb => ?_⟩
    show at2 (List.foldl (fSX k m) ((List.range m).foldl (fRX k n) T) (List.range n)) a b = _
    rw [at2' a b ha hb]
    have e1 := at' a b ha hb
    have e2 := at' a k ha hk
    have e3 := at' k b hk hb
    rw [e1, e2, e3]
    by_cases ham : a = m
    · subst ham
      simp only [hb, and_self, if_true, Nat.lt_irrefl, if_false, Nat.lt_succ_self]
      have : (if k < a then min (at2 T k b) (max (at2 T k k) (at2 T k b)) else at2 T k b) = at2 T k b := by split <;> omega
      rw [this]
    · have hc : (a < m + 1) = (a < m) := by apply propext; omega
      simp [ham, hc]
theorem fT_tabX {n : Nat} {T : List (List Int)} (h : Sq n T) (hn : Nn n (at2 T)) : ∀ m, m ≤ n → Sq n ((List.range m).foldl (fTX n) T) ∧ ∀ a b, a < n → b < n → at2 ((List.range m).foldl (fTX n) T) a b = flFX m (at2 T) a b
  | 0, _ => ⟨h, fun a b _ _ => rfl⟩
  | m + 1, hm => by
    obtain ⟨sq, at'⟩ := fT_tabX h hn m (by omega)
    rw [foldl_succ]
    have hmn : m < n := by omega
    obtain ⟨sq2, at2'⟩ := fR_tabX sq hmn (by rw [at' m m hmn hmn]; exact (nn_flX hn m (by omega)).dg m hmn) n (Nat.le_refl n)
    refine ⟨sq2, fun a b ha hb => ?_⟩
    show at2 (List.foldl (fRX m n) ((List.range m).foldl (fTX n) T) (List.range n)) a b = _
    rw [at2' a b ha hb, if_pos ha, at' a b ha hb, at' a m ha hmn, at' m b hmn hb]
    rfl
theorem floyd_atX {n : Nat} {T : List (List Int)} (h : Sq n T) (hn : Nn n (at2 T)) : Sq n (floydX n T) ∧ ∀ a b, a < n → b < n → at2 (floydX n T) a b = flFX n (at2 T) a b := fT_tabX h hn n (Nat.le_refl n)
theorem floyd_idX {n : Nat} {T : List (List Int)} (h : Sq n T) (hn : Nn n (at2 T)) (ht : ∀ m i j, m < n → i < n → j < n → at2 T i j ≤ max (at2 T i m) (at2 T m j)) : floydX n T = T := by
  obtain ⟨s, e⟩ := floyd_atX h hn
  refine sq_ext s h fun i hi j hj => ?_
  rw [e i j hi hj]
  refine Int.le_antisymm (fl_leX (n := n) n i j) (fl_aboveX ht (fun i j _ _ => Int.le_refl _) n (Nat.le_refl n) i j hi hj)
end Fx
end

section
set_option linter.all false
set_option maxRecDepth 10000
namespace Fx
/-! trees and the ways along them -/
abbrev Edg := Nat × Nat × Int
def Ed (E : List Edg) (a b : Nat) (w : Int) : Prop := (a, b, w) ∈ E ∨ (b, a, w) ∈ E
/-- the points V, the edges E, the ways D -/
structure Tr (V : List Nat) (E : List Edg) (D : Nat → Nat → Int) (top : Int) : Prop where
  sy : ∀ x ∈ V, ∀ y ∈ V, D x y = D y x
  dg : ∀ x ∈ V, D x x = 0
  ps : ∀ x ∈ V, ∀ y ∈ V, x ≠ y → 0 < D x y
  tr : ∀ x ∈ V, ∀ y ∈ V, ∀ z ∈ V, D x z ≤ D x y + D y z
  bd : ∀ x ∈ V, ∀ y ∈ V, D x y ≤ top
  ed : ∀ a b w, Ed E a b w → a ∈ V ∧ b ∈ V ∧ D a b = w ∧ 0 < w
  di : ∀ a b w, Ed E a b w → ∀ i ∈ V, D i b = D i a + w ∨ D i a = D i b + w
  sp : ∀ a b w, Ed E a b w → ∀ i ∈ V, ∀ y ∈ V, D i b = D i a + w → D y a = D y b + w → D i y = D i a + w + D b y
  fp : ∀ x ∈ V, ∀ y ∈ V, ∀ z ∈ V, ∀ u ∈ V, D x y + D z u ≤ max (D x z + D y u) (D x u + D y z)
  cn : ∀ S : Nat → Prop, (∃ x ∈ V, S x) → (∃ y ∈ V, ¬ S y) → ∃ a b w, Ed E a b w ∧ S a ∧ ¬ S b
theorem Tr.of_mem {V : List Nat} {E E' : List Edg} {D : Nat → Nat → Int} {top : Int} (h : Tr V E D top) (he : ∀ e, e ∈ E' ↔ e ∈ E) : Tr V E' D top := by
  have k : ∀ a b w, Ed E' a b w ↔ Ed E a b w := fun a b w => by unfold Ed; rw [he, he]
  refine ⟨h.sy, h.dg, h.ps, h.tr, h.bd, fun a b w q => h.ed a b w ((k a b w).mp q), fun a b w q => h.di a b w ((k a b w).mp q), fun a b w q => h.sp a b w ((k a b w).mp q), h.fp, fun S h1 h2 => ?_⟩
  obtain ⟨a, b, w, q, z⟩ := h.cn S h1 h2
  exact ⟨a, b, w, (k a b w).mpr q, z⟩
theorem tr_one (v : Nat) : Tr [v] [] (fun _ _ => 0) 0 := by
  refine ⟨fun _ _ _ _ => rfl, fun _ _ => rfl, fun x hx y hy h => ?_, fun _ _ _ _ _ _ => by omega, fun _ _ _ _ => Int.le_refl _, fun a b w h => ?_, fun a b w h => ?_, fun a b w h => ?_, fun _ _ _ _ _ _ _ _ => by omega, fun S h1 h2 => ?_⟩
  · simp at hx hy; omega
  · unfold Ed at h; simp at h
  · unfold Ed at h; simp at h
  · unfold Ed at h; simp at h
  · obtain ⟨x, hx, sx⟩ := h1
    obtain ⟨y, hy, sy⟩ := h2
    simp at hx hy
    subst hx hy
    exact absurd sx sy
/-- a leaf more -/
def leaf (D : Nat → Nat → Int) (a b : Nat) (w : Int) : Nat → Nat → Int := fun x y => if x = b then (if y = b then 0 else D a y + w) else if y = b then D x a + w else D x y
theorem tr_leaf {V : List Nat} {E : List Edg} {D : Nat → Nat → Int} {top : Int} (h : Tr V E D top) {a b : Nat} {w t : Int} (ha : a ∈ V) (hb : b ∉ V) (h0 : 0 < w) (ht : w ≤ t) (e : Edg) (he : e = (a, b, w) ∨ e = (b, a, w)) (htop : 0 ≤ top) : Tr (V ++ [b]) (E ++ [e]) (leaf D a b w) (top + t) := by
  have ne : ∀ x ∈ V, x ≠ b := fun x hx q => hb (q ▸ hx)
  have k1 : ∀ x ∈ V, ∀ y ∈ V, leaf D a b w x y = D x y := fun x hx y hy => by unfold leaf; rw [if_neg (ne x hx), if_neg (ne y hy)]
  have k2 : ∀ y ∈ V, leaf D a b w b y = D a y + w := fun y hy => by unfold leaf; rw [if_pos rfl, if_neg (ne y hy)]
  have k3 : ∀ x ∈ V, leaf D a b w x b = D x a + w := fun x hx => by unfold leaf; rw [if_neg (ne x hx), if_pos rfl]
  have k4 : leaf D a b w b b = 0 := by unfold leaf; rw [if_pos rfl, if_pos rfl]
  have mem : ∀ x, x ∈ V ++ [b] ↔ x ∈ V ∨ x = b := fun x => by simp
  have aa := h.dg a ha
  have edc : ∀ p q u, Ed (E ++ [e]) p q u → Ed E p q u ∨ (u = w ∧ ((p = a ∧ q = b) ∨ (p = b ∧ q = a))) := fun p q u hq => by
    unfold Ed at hq ⊢
    simp only [List.mem_append, List.mem_singleton] at hq
    rcases hq with (hq | hq) | (hq | hq)
    · exact .inl (.inl hq)
    · rcases he with he | he <;> (rw [he] at hq; cases hq; simp)
    · exact .inl (.inr hq)
    · rcases he with he | he <;> (rw [he] at hq; cases hq; simp)
  have newE : Ed (E ++ [e]) a b w ∧ Ed (E ++ [e]) b a w := by
    unfold Ed
    simp only [List.mem_append, List.mem_singleton]
    rcases he with he | he <;> simp [he]
  have oldE : ∀ p q u, Ed E p q u → Ed (E ++ [e]) p q u := fun p q u hq => by
    unfold Ed at hq ⊢
    simp only [List.mem_append]
    exact hq.imp .inl .inl
  refine ⟨?_, ?_, ?_, ?_, ?_, ?_, ?_, ?_, ?_, ?_⟩
  · intro x hx y hy
    rcases (mem x).mp hx with hx' | rfl <;> rcases (mem y).mp hy with hy' | rfl
    · rw [k1 x hx' y hy', k1 y hy' x hx']; exact h.sy x hx' y hy'
    · rw [k3 x hx', k2 x hx', h.sy x hx' a ha]
    · rw [k2 y hy', k3 y hy', h.sy a ha y hy']
    · rfl
  · intro x hx
    rcases (mem x).mp hx with hx' | rfl
    · rw [k1 x hx' x hx']; exact h.dg x hx'
    · exact k4
  · intro x hx y hy hxy
    rcases (mem x).mp hx with hx' | rfl <;> rcases (mem y).mp hy with hy' | rfl
    · rw [k1 x hx' y hy']; exact h.ps x hx' y hy' hxy
    · rw [k3 x hx']
      by_cases q : x = a
      · subst q; omega
      · have := h.ps x hx' a ha q; omega
    · rw [k2 y hy']
      by_cases q : a = y
      · subst q; omega
      · have := h.ps a ha y hy' q; omega
    · exact absurd rfl hxy
  · intro x hx y hy z hz
    rcases (mem x).mp hx with hx' | rfl <;> rcases (mem y).mp hy with hy' | rfl <;> rcases (mem z).mp hz with hz' | rfl
    · rw [k1 x hx' z hz', k1 x hx' y hy', k1 y hy' z hz']; exact h.tr x hx' y hy' z hz'
    · rw [k3 x hx', k1 x hx' y hy', k3 y hy']; have := h.tr x hx' y hy' a ha; omega
    · rw [k1 x hx' z hz', k3 x hx', k2 z hz']; have := h.tr x hx' a ha z hz'; omega
    · rw [k3 x hx', k4]; omega
    · rw [k2 z hz', k2 y hy', k1 y hy' z hz']; have := h.tr a ha y hy' z hz'; omega
    · rw [k4, k2 y hy', k3 y hy']
      have := h.sy a ha y hy'
      by_cases q : a = y
      · subst q; omega
      · have := h.ps a ha y hy' q; omega
    · rw [k2 z hz', k4]; omega
    · rw [k4]; omega
  · intro x hx y hy
    rcases (mem x).mp hx with hx' | rfl <;> rcases (mem y).mp hy with hy' | rfl
    · rw [k1 x hx' y hy']; have := h.bd x hx' y hy'; omega
    · rw [k3 x hx']; have := h.bd x hx' a ha; omega
    · rw [k2 y hy']; have := h.bd a ha y hy'; omega
    · rw [k4]; omega
  · intro p q u hq
    rcases edc p q u hq with hq | ⟨rfl, ⟨rfl, rfl⟩ | ⟨rfl, rfl⟩⟩
    · obtain ⟨h1, h2, h3, h4⟩ := h.ed p q u hq
      exact ⟨(mem p).mpr (.inl h1), (mem q).mpr (.inl h2), by rw [k1 p h1 q h2, h3], h4⟩
    · exact ⟨(mem _).mpr (.inl ha), (mem _).mpr (.inr rfl), by rw [k3 _ ha]; omega, h0⟩
    · exact ⟨(mem _).mpr (.inr rfl), (mem _).mpr (.inl ha), by rw [k2 _ ha]; omega, h0⟩
  · intro p q u hq i hi
    rcases edc p q u hq with hq | ⟨rfl, ⟨rfl, rfl⟩ | ⟨rfl, rfl⟩⟩
    · obtain ⟨h1, h2, h3, h4⟩ := h.ed p q u hq
      rcases (mem i).mp hi with hi' | rfl
      · rw [k1 i hi' p h1, k1 i hi' q h2]; exact h.di p q u hq i hi'
      · rw [k2 p h1, k2 q h2]; have := h.di p q u hq a ha; omega
    · rcases (mem i).mp hi with hi' | rfl
      · left; rw [k3 i hi', k1 i hi' _ ha]
      · right; rw [k4, k2 _ ha]; omega
    · rcases (mem i).mp hi with hi' | rfl
      · right; rw [k3 i hi', k1 i hi' _ ha]
      · left; rw [k4, k2 _ ha]; omega
  · intro p q u hq i hi y hy e1 e2
    rcases edc p q u hq with hq | ⟨rfl, ⟨rfl, rfl⟩ | ⟨rfl, rfl⟩⟩
    · obtain ⟨h1, h2, h3, h4⟩ := h.ed p q u hq
      rcases (mem i).mp hi with hi' | rfl <;> rcases (mem y).mp hy with hy' | rfl
      · rw [k1 i hi' q h2, k1 i hi' p h1] at e1
        rw [k1 y hy' p h1, k1 y hy' q h2] at e2
        rw [k1 i hi' y hy', k1 i hi' p h1, k1 q h2 y hy']
        exact h.sp p q u hq i hi' y hy' e1 e2
      · rw [k1 i hi' q h2, k1 i hi' p h1] at e1
        rw [k2 p h1, k2 q h2] at e2
        rw [k3 i hi', k1 i hi' p h1, k3 q h2]
        have := h.sp p q u hq i hi' a ha e1 (by omega)
        omega
      · rw [k2 q h2, k2 p h1] at e1
        rw [k1 y hy' p h1, k1 y hy' q h2] at e2
        rw [k2 y hy', k2 p h1, k1 q h2 y hy']
        have := h.sp p q u hq a ha y hy' (by omega) e2
        omega
      · rw [k2 q h2, k2 p h1] at e1 e2
        omega
    · rcases (mem y).mp hy with hy' | rfl
      · rw [k1 y hy' _ ha, k3 y hy'] at e2
        omega
      · rcases (mem i).mp hi with hi' | rfl
        · rw [k3 i hi', k1 i hi' _ ha, k4]; omega
        · rw [k4, k2 _ ha] at e1; omega
    · rcases (mem i).mp hi with hi' | rfl
      · rw [k1 i hi' _ ha, k3 i hi'] at e1
        omega
      · rcases (mem y).mp hy with hy' | rfl
        · rw [k2 y hy', k4, k1 _ ha y hy']; omega
        · rw [k4, k2 _ ha] at e2; omega
  · intro x hx y hy z hz u hu
    have q0 : ∀ p ∈ V, 0 ≤ D a p := fun p hp => by
      by_cases q : a = p
      · subst q; omega
      · have := h.ps a ha p hp q; omega
    have sy' : ∀ p ∈ V, D p a = D a p := fun p hp => h.sy p hp a ha
    rcases (mem x).mp hx with hx' | rfl <;> rcases (mem y).mp hy with hy' | rfl <;> rcases (mem z).mp hz with hz' | rfl <;> rcases (mem u).mp hu with hu' | rfl
    · simp only [k1 x hx' y hy', k1 z hz' u hu', k1 x hx' z hz', k1 y hy' u hu', k1 x hx' u hu', k1 y hy' z hz']; exact h.fp x hx' y hy' z hz' u hu'
    · simp only [k1 x hx' y hy', k3 z hz', k1 x hx' z hz', k3 y hy', k3 x hx', k1 y hy' z hz']; have := h.fp x hx' y hy' z hz' a ha; omega
    · simp only [k1 x hx' y hy', k2 u hu', k3 x hx', k1 y hy' u hu', k1 x hx' u hu', k3 y hy']; have := h.fp x hx' y hy' a ha u hu'; omega
    · simp only [k1 x hx' y hy', k4, k3 x hx', k3 y hy']; have := h.tr x hx' a ha y hy'; have := sy' y hy'; omega
    · simp only [k3 x hx', k1 z hz' u hu', k1 x hx' z hz', k2 u hu', k1 x hx' u hu', k2 z hz']; have := h.fp x hx' a ha z hz' u hu'; omega
    · simp only [k3 x hx', k3 z hz', k1 x hx' z hz', k4, k2 z hz']; have := sy' z hz'; omega
    · simp only [k3 x hx', k2 u hu', k1 x hx' u hu', k4]; omega
    · simp only [k3 x hx', k4]; omega
    · simp only [k2 y hy', k1 z hz' u hu', k2 z hz', k1 y hy' u hu', k2 u hu', k1 y hy' z hz']; have := h.fp a ha y hy' z hz' u hu'; omega
    · simp only [k2 y hy', k3 z hz', k2 z hz', k3 y hy', k4, k1 y hy' z hz']; have := sy' y hy'; have := sy' z hz'; omega
    · simp only [k2 y hy', k2 u hu', k4, k1 y hy' u hu', k3 y hy']; have := sy' y hy'; omega
    · simp only [k2 y hy', k4, k3 y hy']; have := sy' y hy'; omega
    · simp only [k4, k1 z hz' u hu', k2 z hz', k2 u hu']; have := h.tr z hz' a ha u hu'; have := sy' z hz'; omega
    · simp only [k4, k3 z hz', k2 z hz']; have := sy' z hz'; omega
    · simp only [k4, k2 u hu']; omega
    · simp only [k4]; omega
  · intro S h1 h2
    by_cases c1 : ∃ x ∈ V, S x
    · by_cases c2 : ∃ y ∈ V, ¬ S y
      · obtain ⟨p, q, u, hq, z⟩ := h.cn S c1 c2
        exact ⟨p, q, u, oldE p q u hq, z⟩
      · have all : ∀ y ∈ V, S y := fun y hy => Classical.byContradiction fun z => c2 ⟨y, hy, z⟩
        obtain ⟨y, hy, sy⟩ := h2
        rcases (mem y).mp hy with hy' | rfl
        · exact absurd (all y hy') sy
        · exact ⟨a, _, w, newE.1, all a ha, sy⟩
    · have non : ∀ y ∈ V, ¬ S y := fun y hy z => c1 ⟨y, hy, z⟩
      obtain ⟨y, hy, sy⟩ := h1
      rcases (mem y).mp hy with hy' | rfl
      · exact absurd sy (non y hy')
      · exact ⟨_, a, w, newE.2, sy, non a ha⟩
end Fx
end

section
set_option linter.all false
set_option maxRecDepth 10000
namespace Fx
theorem map_erase {α β : Type} (f : α → β) : ∀ (l : List α) (q : Nat), (l.map f).eraseIdx q = (l.eraseIdx q).map f
  | [], _ => rfl
  | _ :: _, 0 => rfl
  | a :: l, q + 1 => by simp [map_erase f l q]
theorem perm_erase {α : Type} : ∀ (l : List α) (q : Nat) (h : q < l.length), (l[q] :: l.eraseIdx q).Perm l
  | a :: l, 0, _ => List.Perm.refl _
  | a :: l, q + 1, h => by
    simp only [List.getElem_cons_succ, List.eraseIdx_cons_succ]
    exact (List.Perm.swap a _ _).trans ((perm_erase l q (by simpa using h)).cons a)
end Fx
end

section
set_option linter.all false
set_option maxRecDepth 10000
namespace Fx
def edR (e : Edg) : List Int := [(e.1 : Int), (e.2.1 : Int), e.2.2]
def edD (e : Edg) : D := tiD (edR e)
theorem rng_one (n : Nat) : rng 1 n = (List.range' 1 n).map fun (t : Nat) => D.int (t : Int) := by
  unfold rng
  rw [List.range'_eq_map_range, List.map_map]
  refine List.map_congr_left fun k _ => ?_
  simp only [Function.comp]
  congr 1
theorem introws_ed : ∀ E : List Edg, D.introws (E.map edD) = some (E.map edR)
  | [] => rfl
  | e :: E => by
    show D.introws (edD e :: E.map edD) = _
    unfold edD tiD edR
    simp only [List.map_cons, List.map_nil, D.introws, D.ints, Option.map_some]
    have := introws_ed E
    unfold edD tiD edR at this
    simp only [List.map_cons, List.map_nil] at this
    rw [this]
/-- sorted edges are edges -/
theorem sort_ed (E : List Edg) : ∃ E' : List Edg, (∀ e, e ∈ E' ↔ e ∈ E) ∧ E'.length = E.length ∧ oSort (.v (.lst (E.map edD))) = some (.o (E'.map edD)) := by
  cases hE : E with
  | nil => exact ⟨[], by simp, rfl, by simp [oSort, oSortI, Vl.items, D.items, D.ints]⟩
  | cons e0 r =>
    rw [← hE]
    have hs : oSortI (.v (.lst (E.map edD))) = none := by
      rw [hE]
      unfold oSortI
      simp [Vl.items, D.items, edD, tiD, D.ints]
    have hp := List.mergeSort_perm (E.map edR) (fun a b => decide (a ≤ b))
    let dec : List Int → Edg := fun r => ((r.getD 0 0).toNat, (r.getD 1 0).toNat, r.getD 2 0)
    have hd : ∀ e : Edg, dec (edR e) = e := fun e => by simp [dec, edR]
    have hm : ∀ r ∈ (E.map edR).mergeSort (fun a b => decide (a ≤ b)), edR (dec r) = r := fun r hr => by
      obtain ⟨e, _, rfl⟩ := List.mem_map.mp (hp.mem_iff.mp hr)
      rw [hd]
    refine ⟨((E.map edR).mergeSort fun a b => decide (a ≤ b)).map dec, fun e => ?_, by simp, ?_⟩
    · constructor
      · intro h
        obtain ⟨r, hr, rfl⟩ := List.mem_map.mp h
        obtain ⟨e, he, rfl⟩ := List.mem_map.mp (hp.mem_iff.mp hr)
        rw [hd]; exact he
      · intro h
        exact List.mem_map.mpr ⟨edR e, hp.mem_iff.mpr (List.mem_map.mpr ⟨e, h, rfl⟩), hd e⟩
    · unfold oSort
      rw [hs]
      unfold oSortT
      simp only [Vl.items, D.items, Option.bind_some, introws_ed, Option.map_some]
      congr 2
      rw [List.map_map]
      refine List.map_congr_left fun r hr => ?_
      show tiD r = tiD (edR (dec r))
      rw [hm r hr]
end Fx
end

section
set_option linter.all false
set_option maxRecDepth 10000
namespace Fx
/-! the ways along a tree, found step by step -/
def st (f : Nat → Option Int) (e : Edg) : Nat → Option Int :=
  if (f e.1).isSome && (f e.2.1).isNone then fun x => if x = e.2.1 then (f e.1).map (· + e.2.2) else f x
  else if (f e.2.1).isSome && (f e.1).isNone then fun x => if x = e.1 then (f e.2.1).map (· + e.2.2) else f x else f
structure Kn (V : List Nat) (D : Nat → Nat → Int) (i : Nat) (f : Nat → Option Int) : Prop where
  ok : ∀ x v, f x = some v → x ∈ V ∧ v = D i x
  me : f i = some 0
  cl : ∀ x ∈ V, f x ≠ none → ∀ y ∈ V, D i x = D i y + D y x → f y ≠ none
section
variable {V : List Nat} {E : List Edg} {D : Nat → Nat → Int} {top : Int} {i : Nat} {f : Nat → Option Int}
theorem kn_grow (h : Tr V E D top) (hi : i ∈ V) (k : Kn V D i f) {a b : Nat} {w v : Int} (he : Ed E a b w) (ha : f a = some v) (hb : f b = none) : Kn V D i (fun x => if x = b then some (v + w) else f x) := by
  obtain ⟨ma, mb, dab, w0⟩ := h.ed a b w he
  obtain ⟨_, va⟩ := k.ok a v ha
  have side : D i b = D i a + w := by
    rcases h.di a b w he i hi with q | q
    · exact q
    · have hba : D b a = w := by rw [h.sy b mb a ma, dab]
      exact absurd hb (k.cl a ma (by rw [ha]; simp) b mb (by rw [q, hba]))
  refine ⟨fun x u hx => ?_, ?_, fun x hx hfx y hy hxy => ?_⟩
  · by_cases q : x = b
    · subst q
      rw [if_pos rfl] at hx
      cases hx
      exact ⟨mb, by rw [va, side]⟩
    · rw [if_neg q] at hx
      exact k.ok x u hx
  · have : i ≠ b := fun q => by
      have := k.me
      rw [q, hb] at this
      cases this
    show (if i = b then some (v + w) else f i) = some 0
    rw [if_neg this]
    exact k.me
  · show (if y = b then some (v + w) else f y) ≠ none
    by_cases qy : y = b
    · rw [if_pos qy]; simp
    · rw [if_neg qy]
      by_cases q : x = b
      · subst q
        rcases h.di a x w he y hy with z | z
        · exact k.cl a ma (by rw [ha]; simp) y hy (by omega)
        · have s1 := h.sp a x w he i hi y hy side z
          have s2 := h.sy x mb y hy
          have s3 := h.ps x mb y hy (fun z => qy z.symm)
          omega
      · have hfx' : f x ≠ none := by
          have : (if x = b then some (v + w) else f x) ≠ none := hfx
          rwa [if_neg q] at this
        exact k.cl x hx hfx' y hy hxy
theorem kn_st (h : Tr V E D top) (hi : i ∈ V) (k : Kn V D i f) {e : Edg} (he : e ∈ E) : Kn V D i (st f e) := by
  obtain ⟨a, b, w⟩ := e
  unfold st
  dsimp only
  cases ha : f a with
  | none =>
    cases hb : f b with
    | none => simpa using k
    | some v => simpa [ha, hb] using kn_grow h hi k (a := b) (b := a) (w := w) (.inr he) hb ha
  | some v =>
    cases hb : f b with
    | none => simpa [ha, hb] using kn_grow h hi k (a := a) (b := b) (w := w) (.inl he) ha hb
    | some u => simpa using k
theorem st_mono (e : Edg) {x : Nat} (hx : f x ≠ none) : st f e x ≠ none := by
  obtain ⟨a, b, w⟩ := e
  unfold st
  dsimp only
  cases ha : f a with
  | none =>
    cases hb : f b with
    | none => simpa using hx
    | some v =>
      simp only [Option.isSome_none, Option.isNone_some, Bool.and_self, Bool.false_eq_true, if_false, Option.isSome_some, Option.isNone_none, if_true, Option.map_some]
      split
      · simp
      · exact hx
  | some v =>
    cases hb : f b with
    | none =>
      simp only [Option.isSome_some, Option.isNone_none, Bool.and_self, if_true, Option.map_some]
      split
      · simp
      · exact hx
    | some u => simpa using hx
theorem st_both (a b : Nat) (w : Int) (hx : f a ≠ none ∨ f b ≠ none) : st f (a, b, w) a ≠ none ∧ st f (a, b, w) b ≠ none := by
  unfold st
  dsimp only
  cases ha : f a with
  | none =>
    cases hb : f b with
    | none => rw [ha, hb] at hx; simp at hx
    | some v =>
      simp only [Option.isSome_none, Option.isNone_some, Bool.and_self, Bool.false_eq_true, if_false, Option.isSome_some, Option.isNone_none, if_true, Option.map_some]
      refine ⟨by simp, ?_⟩
      split
      · simp
      · rw [hb]; simp
  | some v =>
    cases hb : f b with
    | none =>
      simp only [Option.isSome_some, Option.isNone_none, Bool.and_self, if_true, Option.map_some]
      refine ⟨?_, by simp⟩
      split
      · simp
      · rw [ha]; simp
    | some u => simp [ha, hb]
theorem pass_kn (h : Tr V E D top) (hi : i ∈ V) : ∀ (l : List Edg) (f : Nat → Option Int), (∀ e ∈ l, e ∈ E) → Kn V D i f → Kn V D i (l.foldl st f)
  | [], _, _, k => k
  | e :: l, f, hl, k => pass_kn h hi l _ (fun e he => hl e (by simp [he])) (kn_st h hi k (hl e (by simp)))
theorem pass_mono : ∀ (l : List Edg) (f : Nat → Option Int) {x : Nat}, f x ≠ none → l.foldl st f x ≠ none
  | [], _, _, h => h
  | e :: l, f, x, h => pass_mono l _ (st_mono e h)
theorem pass_both : ∀ (l : List Edg) (f : Nat → Option Int) (a b : Nat) (w : Int), (a, b, w) ∈ l → f a ≠ none ∨ f b ≠ none → l.foldl st f a ≠ none ∧ l.foldl st f b ≠ none
  | [], _, _, _, _, h, _ => by simp at h
  | e :: l, f, a, b, w, h, k => by
    rcases List.mem_cons.mp h with rfl | h
    · obtain ⟨h1, h2⟩ := st_both (f := f) a b w k
      exact ⟨pass_mono l _ h1, pass_mono l _ h2⟩
    · exact pass_both l _ a b w h (k.imp (st_mono e) (st_mono e))
theorem count_lt {α : Type} (P Q : α → Bool) : ∀ (l : List α), (∀ x ∈ l, P x = true → Q x = true) → (∃ x ∈ l, Q x = true ∧ P x = false) → l.countP P < l.countP Q
  | [], _, h => by obtain ⟨x, hx, _⟩ := h; simp at hx
  | a :: l, hs, h => by
    have hle : ∀ l : List α, (∀ x ∈ l, P x = true → Q x = true) → l.countP P ≤ l.countP Q := fun l hl => List.countP_mono_left hl
    have h1 := hs a (by simp)
    have h2 := hle l fun x hx => hs x (by simp [hx])
    obtain ⟨x, hx, hq, hp⟩ := h
    rcases List.mem_cons.mp hx with rfl | hx
    · rw [List.countP_cons_of_neg (by rw [hp]; simp), List.countP_cons_of_pos hq]
      omega
    · have h3 := count_lt P Q l (fun x hx => hs x (by simp [hx])) ⟨x, hx, hq, hp⟩
      cases hP : P a with
      | false =>
        rw [List.countP_cons_of_neg (by rw [hP]; simp)]
        cases hQ : Q a with
        | false => rw [List.countP_cons_of_neg (by rw [hQ]; simp)]; exact h3
        | true => rw [List.countP_cons_of_pos hQ]; omega
      | true =>
        rw [List.countP_cons_of_pos hP, List.countP_cons_of_pos (h1 hP)]
        omega
def unk (V : List Nat) (f : Nat → Option Int) : Nat := V.countP fun x => (f x).isNone
theorem pass_less (h : Tr V E D top) (hi : i ∈ V) (k : Kn V D i f) : unk V (E.foldl st f) = 0 ∨ unk V (E.foldl st f) < unk V f := by
  by_cases hz : ∃ y ∈ V, f y = none
  · right
    obtain ⟨y, hy, hfy⟩ := hz
    obtain ⟨a, b, w, he, sa, sb⟩ := h.cn (fun x => f x ≠ none) ⟨i, hi, by rw [k.me]; simp⟩ ⟨y, hy, by simpa using hfy⟩
    obtain ⟨ma, mb, _⟩ := h.ed a b w he
    have hb : E.foldl st f b ≠ none := by
      rcases he with he | he
      · exact (pass_both E f a b w he (.inl sa)).2
      · exact (pass_both E f b a w he (.inr sa)).1
    have hfb : f b = none := Classical.byContradiction sb
    refine count_lt _ _ V (fun x _ hx => ?_) ⟨b, mb, by simp [hfb], ?_⟩
    · cases hfx : f x with
      | none => rfl
      | some v =>
        have := pass_mono E f (x := x) (by rw [hfx]; simp)
        cases hq : E.foldl st f x with
        | none => exact absurd hq this
        | some u => rw [hq] at hx; cases hx
    · cases hq : E.foldl st f b with
      | none => exact absurd hq hb
      | some u => rfl
  · left
    unfold unk
    rw [List.countP_eq_zero]
    intro x hx hn
    have : f x ≠ none := fun q => hz ⟨x, hx, q⟩
    have := pass_mono E f this
    cases hq : E.foldl st f x with
    | none => exact this hq
    | some u => rw [hq] at hn; cases hn
def ini (i : Nat) : Nat → Option Int := fun x => if i = x then some 0 else none
def runs (E : List Edg) (i : Nat) : Nat → (Nat → Option Int)
  | 0 => ini i
  | k + 1 => E.foldl st (runs E i k)
theorem ini_kn (h : Tr V E D top) (hi : i ∈ V) : Kn V D i (ini i) := by
  refine ⟨fun x v hx => ?_, by simp [ini], fun x hx hfx y hy hxy => ?_⟩
  · unfold ini at hx
    split at hx
    · rename_i q
      subst q
      cases hx
      exact ⟨hi, (h.dg i hi).symm⟩
    · cases hx
  · unfold ini at hfx ⊢
    split at hfx
    · rename_i q
      subst q
      by_cases z : i = y
      · rw [if_pos z]; simp
      · have h1 := h.dg i hi
        have h2 := h.ps i hi y hy z
        have h3 := h.ps y hy i hi (fun q => z q.symm)
        omega
    · exact absurd rfl hfx
theorem runs_kn (h : Tr V E D top) (hi : i ∈ V) : ∀ k, Kn V D i (runs E i k)
  | 0 => ini_kn h hi
  | k + 1 => pass_kn h hi E _ (fun _ he => he) (runs_kn h hi k)
theorem runs_unk (h : Tr V E D top) (hi : i ∈ V) : ∀ k, unk V (runs E i k) = 0 ∨ unk V (runs E i k) + k ≤ V.length
  | 0 => .inr (by unfold unk; exact List.countP_le_length)
  | k + 1 => by
    rcases pass_less h hi (runs_kn h hi k) with q | q
    · exact .inl q
    · rcases runs_unk h hi k with z | z
      · rw [z] at q; omega
      · right
        show unk V (E.foldl st (runs E i k)) + (k + 1) ≤ V.length
        omega
theorem runs_all (h : Tr V E D top) (hi : i ∈ V) {x : Nat} (hx : x ∈ V) : runs E i V.length x = some (D i x) := by
  have hz : unk V (runs E i V.length) = 0 := by
    rcases runs_unk h hi V.length with q | q
    · exact q
    · omega
  unfold unk at hz
  rw [List.countP_eq_zero] at hz
  have := hz x hx
  cases hq : runs E i V.length x with
  | none => rw [hq] at this; exact absurd rfl this
  | some v => rw [((runs_kn h hi V.length).ok x v hq).2]
end
end Fx
end

section
set_option linter.all false
set_option maxRecDepth 10000
namespace Fx
def oD : Option Int → D
  | none => .non
  | some v => .int v
def ooF (m : Nat) (F : Nat → Nat → Option Int) : List (List D) := (List.range m).map fun i => (List.range m).map fun j => oD (F i j)
def upR (F : Nat → Nat → Option Int) (i : Nat) (f : Nat → Option Int) : Nat → Nat → Option Int := fun x => if x = i then f else F x
theorem upR_self (F : Nat → Nat → Option Int) (i : Nat) : upR F i (F i) = F := by
  funext x
  unfold upR
  split
  · rename_i q; rw [q]
  · rfl
theorem upR_at (F : Nat → Nat → Option Int) (i : Nat) (f : Nat → Option Int) : upR F i f i = f := by unfold upR; rw [if_pos rfl]
theorem upR_upR (F : Nat → Nat → Option Int) (i : Nat) (f g : Nat → Option Int) : upR (upR F i f) i g = upR F i g := by
  funext x
  unfold upR
  split <;> rfl
theorem map_range_set {α : Type} (g : Nat → α) (m i : Nat) (v : α) : ((List.range m).map g).set i v = (List.range m).map fun x => if x = i then v else g x := by
  refine List.ext_getElem (by simp) fun k h1 h2 => ?_
  simp only [List.length_set, List.length_map, List.length_range] at h1
  rw [List.getElem_set]
  simp only [List.getElem_map, List.getElem_range]
  by_cases q : i = k
  · rw [if_pos q, if_pos q.symm]
  · rw [if_neg q, if_neg (fun z => q z.symm)]
theorem ooF_len (m : Nat) (F : Nat → Nat → Option Int) : (ooF m F).length = m := by simp [ooF]
theorem ooF_get (m : Nat) (F : Nat → Nat → Option Int) {i : Nat} (hi : i < m) : (ooF m F)[i]? = some ((List.range m).map fun j => oD (F i j)) := by simp [ooF, hi]
theorem ooF_read {m k : Nat} {F : Nat → Nat → Option Int} {f g : N} {e : En} {i j : Nat} (hk : e[k]? = some (some (.oo (ooF m F)))) (hf : f e = some (i : Int)) (hg : g e = some (j : Int)) (hi : i < m) (hj : j < m) :
    eIxPP k f g e = .ok (.v (oD (F i j))) e := by
  unfold eIxPP
  simp only [hk, hf, hg]
  rw [atD_nat, ooF_get m F hi, Option.bind_some, atD_nat]
  simp [hj]
theorem ooF_write {m k : Nat} {F : Nat → Nat → Option Int} {f g : N} {e : En} {i j : Nat} (hk : e[k]? = some (some (.oo (ooF m F)))) (hf : f e = some (i : Int)) (hg : g e = some (j : Int)) (hi : i < m) (hj : j < m) (v : Int) :
    gIx2 k f g (.int v) e = some (e.set k (some (.oo (ooF m (upR F i fun y => if y = j then some v else F i y))))) := by
  unfold gIx2
  simp only [hk, hf, hg, ooF_len, ixN_nat hi, Option.bind_some, ooF_get m F hi, List.length_map, List.length_range, ixN_nat hj, Option.map_some]
  congr 4
  unfold ooF
  rw [map_range_set, map_range_set]
  refine List.map_congr_left fun x _ => ?_
  unfold upR
  by_cases q : x = i
  · rw [if_pos q, if_pos q]
    refine List.map_congr_left fun y _ => ?_
    split <;> rfl
  · rw [if_neg q, if_neg q]
section
variable {m : Nat} {E : List Edg}
abbrev EA (m : Nat) (E : List Edg) (F : Nat → Nat → Option Int) (i t a b s : Option Vl) : En := [some (.v (.int (m : Int))), some (.v (.tup (E.map edD))), some (.oo (ooF m F)), i, t, a, b, s, none]
abbrev BA : C := sSeq (sIf (tAnd (tB (e2 oIsNot (eIxPP 2 (nV 3) (nV 5)) (eC .non))) (tB (e2 oIs (eIxPP 2 (nV 3) (nV 6)) (eC .non)))) (sTo (gIx2 2 (nV 3) (nV 6)) (e2 oAdd (eIxPP 2 (nV 3) (nV 5)) (eV 7))) sNil) (sIf (tAnd (tB (e2 oIsNot (eIxPP 2 (nV 3) (nV 6)) (eC .non))) (tB (e2 oIs (eIxPP 2 (nV 3) (nV 5)) (eC .non)))) (sTo (gIx2 2 (nV 3) (nV 5)) (e2 oAdd (eIxPP 2 (nV 3) (nV 6)) (eV 7))) sNil)
theorem isnot_oD (o : Option Int) : oIsNot (.v (oD o)) (.v .non) = some (.v (.bl o.isSome)) := by cases o <;> rfl
theorem is_oD (o : Option Int) : oIs (.v (oD o)) (.v .non) = some (.v (.bl o.isNone)) := by cases o <;> rfl
theorem turnA {F : Nat → Nat → Option Int} {i : Nat} (hi : i < m) (t : Option Vl) (a b : Nat) (w : Int) (ha : a < m) (hb : b < m) :
    BA (EA m E F (some (.v (.int (i : Int)))) t (some (.v (.int (a : Int)))) (some (.v (.int (b : Int)))) (some (.v (.int w)))) = .nxt (EA m E (upR F i (st (F i) (a, b, w))) (some (.v (.int (i : Int)))) t (some (.v (.int (a : Int)))) (some (.v (.int (b : Int)))) (some (.v (.int w)))) := by
  have rd := fun (F : Nat → Nat → Option Int) => ooF_read (m := m) (k := 2) (F := F) (f := nV 3) (g := nV 5) (e := EA m E F (some (.v (.int (i : Int)))) t (some (.v (.int (a : Int)))) (some (.v (.int (b : Int)))) (some (.v (.int w)))) rfl rfl rfl hi ha
  have rd2 := fun (F : Nat → Nat → Option Int) => ooF_read (m := m) (k := 2) (F := F) (f := nV 3) (g := nV 6) (e := EA m E F (some (.v (.int (i : Int)))) t (some (.v (.int (a : Int)))) (some (.v (.int (b : Int)))) (some (.v (.int w)))) rfl rfl rfl hi hb
  have wr := fun v => ooF_write (m := m) (k := 2) (F := F) (f := nV 3) (g := nV 5) (e := EA m E F (some (.v (.int (i : Int)))) t (some (.v (.int (a : Int)))) (some (.v (.int (b : Int)))) (some (.v (.int w)))) rfl rfl rfl hi ha v
  have wr2 := fun v => ooF_write (m := m) (k := 2) (F := F) (f := nV 3) (g := nV 6) (e := EA m E F (some (.v (.int (i : Int)))) t (some (.v (.int (a : Int)))) (some (.v (.int (b : Int)))) (some (.v (.int w)))) rfl rfl rfl hi hb v
  simp only [List.set_cons_succ, List.set_cons_zero] at wr wr2
  unfold st
  dsimp only
  cases qa : F i a with
  | none =>
    have h1 := rd F
    rw [qa] at h1
    cases qb : F i b with
    | none =>
      have h2 := rd2 F
      rw [qb] at h2
      simp [h1, h2, isnot_oD, is_oD, -s_eIxPP, -s_gIx2, upR_self]
    | some v =>
      have h2 := rd2 F
      rw [qb] at h2
      have h3 := wr (v + w)
      simp [h1, h2, h3, isnot_oD, is_oD, -s_eIxPP, -s_gIx2]
      simp [oD, h3, -s_gIx2]
  | some u =>
    have h1 := rd F
    rw [qa] at h1
    cases qb : F i b with
    | none =>
      have h2 := rd2 F
      rw [qb] at h2
      have h3 := wr2 (u + w)
      have h4 := rd (upR F i fun y => if y = b then some (u + w) else F i y)
      have h5 := rd2 (upR F i fun y => if y = b then some (u + w) else F i y)
      have hne : a ≠ b := fun z => by rw [z, qb] at qa; cases qa
      rw [upR_at, if_neg hne, qa] at h4
      rw [upR_at, if_pos rfl] at h5
      simp [h1, h2, isnot_oD, is_oD, -s_eIxPP, -s_gIx2]
      simp [oD, h3, -s_gIx2, -s_eIxPP]
      simp [h4, h5, isnot_oD, is_oD, -s_eIxPP, -s_gIx2]
    | some v =>
      have h2 := rd2 F
      rw [qb] at h2
      simp [h1, h2, isnot_oD, is_oD, -s_eIxPP, -s_gIx2, upR_self]
end
end Fx
end

section
set_option linter.all false
set_option maxRecDepth 10000
namespace Fx
end Fx
end

section
set_option linter.all false
set_option maxRecDepth 10000
namespace Fx
theorem sq_rowX {n : Nat} {T : List (List Int)} (h : Sq n T) (k i m : Nat) : Sq n ((List.range m).foldl (fSX k i) T) := sq_fold (fun T x h => sq_set2 h _ _ _) _ _ h
theorem sq_rowsX {n : Nat} {T : List (List Int)} (h : Sq n T) (k m : Nat) : Sq n ((List.range m).foldl (fRX k n) T) := sq_fold (fun T x h => sq_rowX h k x n) _ _ h
theorem sq_tabsX {n : Nat} {T : List (List Int)} (h : Sq n T) (m : Nat) : Sq n ((List.range m).foldl (fTX n) T) := sq_fold (fun T x h => sq_rowsX h x n) _ _ h
theorem ult_j {n : Nat} {T : List (List Int)} {s0 : Rd} (h : Sq n T) (hn : n ≤ 1000) {k i : Nat} (hk : k < n) (hi : i < n) (rj : Option Vl) : ∃ r, sFor (iR1 (eV 1)) (gN 9) (sTo (gIx2 6 (nV 8) (nV 9)) (e2 oMin2 (eIxPP 6 (nV 8) (nV 9)) (e2 oMax2 (eIxPP 6 (nV 8) (nV 7)) (eIxPP 6 (nV 7) (nV 9))))) [some (Rd.v s0), some (.v (.int (n : Int))), some (.v (.int 1)), none, none, none, some (.oo (oom T)), (some (.v (.int (k : Int)))), (some (.v (.int (i : Int)))), rj, none] = .nxt [some (Rd.v s0), some (.v (.int (n : Int))), some (.v (.int 1)), none, none, none, some (.oo (oom (fRX k n T i))), (some (.v (.int (k : Int)))), (some (.v (.int (i : Int)))), r, none] := by
  obtain ⟨e', h1, r, rfl⟩ := forGoR (g := gN 9) (b := sTo (gIx2 6 (nV 8) (nV 9)) (e2 oMin2 (eIxPP 6 (nV 8) (nV 9)) (e2 oMax2 (eIxPP 6 (nV 8) (nV 7)) (eIxPP 6 (nV 7) (nV 9)))))
    (fun m e => ∃ r, e = [some (Rd.v s0), some (.v (.int (n : Int))), some (.v (.int 1)), none, none, none, some (.oo (oom ((List.range m).foldl (fSX k i) T))), (some (.v (.int (k : Int)))), (some (.v (.int (i : Int)))), r, none]) n n 0 [some (Rd.v s0), some (.v (.int (n : Int))), some (.v (.int 1)), none, none, none, some (.oo (oom T)), (some (.v (.int (k : Int)))), (some (.v (.int (i : Int)))), rj, none] (by omega) ⟨rj, rfl⟩ (by
      rintro m e hm ⟨r, rfl⟩
      have sq := sq_rowX h k i m
      refine ⟨_, _, rfl, ?_, some (.v (.int (m : Int))), rfl⟩
      rw [foldl_succ]
      generalize (List.range m).foldl (fSX k i) T = U at sq ⊢
      have g1 := eIxPP_ok (k := 6) (f := nV 8) (g := nV 9) (e := [some (Rd.v s0), some (.v (.int (n : Int))), some (.v (.int 1)), none, none, none, some (.oo (oom U)), (some (.v (.int (k : Int)))), (some (.v (.int (i : Int)))), (some (.v (.int (m : Int)))), none]) sq rfl rfl rfl hi hm
      have g2 := eIxPP_ok (k := 6) (f := nV 8) (g := nV 7) (e := [some (Rd.v s0), some (.v (.int (n : Int))), some (.v (.int 1)), none, none, none, some (.oo (oom U)), (some (.v (.int (k : Int)))), (some (.v (.int (i : Int)))), (some (.v (.int (m : Int)))), none]) sq rfl rfl rfl hi hk
      have g3 := eIxPP_ok (k := 6) (f := nV 7) (g := nV 9) (e := [some (Rd.v s0), some (.v (.int (n : Int))), some (.v (.int 1)), none, none, none, some (.oo (oom U)), (some (.v (.int (k : Int)))), (some (.v (.int (i : Int)))), (some (.v (.int (m : Int)))), none]) sq rfl rfl rfl hk hm
      have g4 := gIx2_ok (k := 6) (f := nV 8) (g := nV 9) (e := [some (Rd.v s0), some (.v (.int (n : Int))), some (.v (.int 1)), none, none, none, some (.oo (oom U)), (some (.v (.int (k : Int)))), (some (.v (.int (i : Int)))), (some (.v (.int (m : Int)))), none]) sq rfl rfl rfl hi hm (min (at2 U i m) (max (at2 U i k) (at2 U k m)))
      simp only [List.set_cons_succ, List.set_cons_zero] at g4
      simp [g1, g2, g3, g4, -s_gIx2, -s_eIxPP, fSX])
  rw [← rng_range'] at h1
  refine ⟨r, ?_⟩
  rw [s_sFor, iR1_nat (n := n) (e' := [some (Rd.v s0), some (.v (.int (n : Int))), some (.v (.int 1)), none, none, none, some (.oo (oom T)), (some (.v (.int (k : Int)))), (some (.v (.int (i : Int)))), rj, none]) (by simp [oom_len h.len]) (by omega)]
  exact h1
theorem ult_i {n : Nat} {T : List (List Int)} {s0 : Rd} (h : Sq n T) (hn : n ≤ 1000) {k : Nat} (hk : k < n) (ri rj : Option Vl) : ∃ r s, sFor (iR1 (eV 1)) (gN 8) (sFor (iR1 (eV 1)) (gN 9) (sTo (gIx2 6 (nV 8) (nV 9)) (e2 oMin2 (eIxPP 6 (nV 8) (nV 9)) (e2 oMax2 (eIxPP 6 (nV 8) (nV 7)) (eIxPP 6 (nV 7) (nV 9)))))) [some (Rd.v s0), some (.v (.int (n : Int))), some (.v (.int 1)), none, none, none, some (.oo (oom T)), (some (.v (.int (k : Int)))), ri, rj, none] = .nxt [some (Rd.v s0), some (.v (.int (n : Int))), some (.v (.int 1)), none, none, none, some (.oo (oom (fTX n T k))), (some (.v (.int (k : Int)))), r, s, none] := by
  obtain ⟨e', h1, r, s, rfl⟩ := forGoR (g := gN 8) (b := sFor (iR1 (eV 1)) (gN 9) (sTo (gIx2 6 (nV 8) (nV 9)) (e2 oMin2 (eIxPP 6 (nV 8) (nV 9)) (e2 oMax2 (eIxPP 6 (nV 8) (nV 7)) (eIxPP 6 (nV 7) (nV 9))))))
    (fun m e => ∃ r s, e = [some (Rd.v s0), some (.v (.int (n : Int))), some (.v (.int 1)), none, none, none, some (.oo (oom ((List.range m).foldl (fRX k n) T))), (some (.v (.int (k : Int)))), r, s, none]) n n 0 [some (Rd.v s0), some (.v (.int (n : Int))), some (.v (.int 1)), none, none, none, some (.oo (oom T)), (some (.v (.int (k : Int)))), ri, rj, none] (by omega) ⟨ri, rj, rfl⟩ (by
      rintro m e hm ⟨r, s, rfl⟩
      obtain ⟨s', hs⟩ := ult_j (s0 := s0) (sq_rowsX h k m) hn hk hm s
      refine ⟨_, _, rfl, ?_, some (.v (.int (m : Int))), s', rfl⟩
      rw [foldl_succ]
      exact hs)
  rw [← rng_range'] at h1
  refine ⟨r, s, ?_⟩
  rw [s_sFor, iR1_nat (n := n) (e' := [some (Rd.v s0), some (.v (.int (n : Int))), some (.v (.int 1)), none, none, none, some (.oo (oom T)), (some (.v (.int (k : Int)))), ri, rj, none]) (by simp [oom_len h.len]) (by omega)]
  exact h1
theorem ult_k {n : Nat} {T : List (List Int)} {s0 : Rd} (h : Sq n T) (hn : n ≤ 1000) (rk ri rj : Option Vl) : ∃ q r s, sFor (iR1 (eV 1)) (gN 7) (sFor (iR1 (eV 1)) (gN 8) (sFor (iR1 (eV 1)) (gN 9) (sTo (gIx2 6 (nV 8) (nV 9)) (e2 oMin2 (eIxPP 6 (nV 8) (nV 9)) (e2 oMax2 (eIxPP 6 (nV 8) (nV 7)) (eIxPP 6 (nV 7) (nV 9))))))) [some (Rd.v s0), some (.v (.int (n : Int))), some (.v (.int 1)), none, none, none, some (.oo (oom T)), rk, ri, rj, none] = .nxt [some (Rd.v s0), some (.v (.int (n : Int))), some (.v (.int 1)), none, none, none, some (.oo (oom (floydX n T))), q, r, s, none] := by
  obtain ⟨e', h1, q, r, s, rfl⟩ := forGoR (g := gN 7) (b := sFor (iR1 (eV 1)) (gN 8) (sFor (iR1 (eV 1)) (gN 9) (sTo (gIx2 6 (nV 8) (nV 9)) (e2 oMin2 (eIxPP 6 (nV 8) (nV 9)) (e2 oMax2 (eIxPP 6 (nV 8) (nV 7)) (eIxPP 6 (nV 7) (nV 9)))))))
    (fun m e => ∃ q r s, e = [some (Rd.v s0), some (.v (.int (n : Int))), some (.v (.int 1)), none, none, none, some (.oo (oom ((List.range m).foldl (fTX n) T))), q, r, s, none]) n n 0 [some (Rd.v s0), some (.v (.int (n : Int))), some (.v (.int 1)), none, none, none, some (.oo (oom T)), rk, ri, rj, none] (by omega) ⟨rk, ri, rj, rfl⟩ (by
      rintro m e hm ⟨q, r, s, rfl⟩
      obtain ⟨r', s', hs⟩ := ult_i (s0 := s0) (sq_tabsX h m) hn hm r s
      refine ⟨_, _, rfl, ?_, some (.v (.int (m : Int))), r', s', rfl⟩
      rw [foldl_succ]
      exact hs)
  rw [← rng_range'] at h1
  refine ⟨q, r, s, ?_⟩
  rw [s_sFor, iR1_nat (n := n) (e' := [some (Rd.v s0), some (.v (.int (n : Int))), some (.v (.int 1)), none, none, none, some (.oo (oom T)), rk, ri, rj, none]) (by simp [oom_len h.len]) (by omega)]
  exact h1
/-- distances -/
structure Dst (n : Nat) (T : List (List Int)) : Prop where
  tab : TabI n 1000 T
  ps : ∀ i j, i < n → j < n → i ≠ j → 0 < at2 T i j
  tr : ∀ m i j, m < n → i < n → j < n → at2 T i j ≤ at2 T i m + at2 T m j
def fnT (n : Nat) (f : Nat → Nat → Int) : List (List Int) := (List.range n).map fun i => (List.range n).map fun j => f i j
theorem fnT_at {n : Nat} (f : Nat → Nat → Int) {i j : Nat} (hi : i < n) (hj : j < n) : at2 (fnT n f) i j = f i j := by
  unfold at2 fnT
  simp [List.getD, hi, hj]
theorem fnT_sq (n : Nat) (f : Nat → Nat → Int) : Sq n (fnT n f) := by
  refine ⟨by simp [fnT], fun i hi => ?_⟩
  unfold fnT
  simp [List.getD, hi]
/-- a table as _law_table makes it -/
structure Ptab (n : Nat) (top : Int) (T : List (List Int)) : Prop where
  tab : TabI n top T
  ps : ∀ i j, i < n → j < n → i ≠ j → 0 < at2 T i j
theorem Ptab.nn {n : Nat} {top : Int} {T : List (List Int)} (h : Ptab n top T) : Nn n (at2 T) := ⟨fun i j hi hj => (h.tab.rg i j hi hj).1, fun i hi => h.tab.dg i hi⟩
theorem dst_floyd {n : Nat} {top : Int} {T : List (List Int)} (h : Ptab n top T) (ht : top ≤ 1000) : Dst n (floyd n T) := by
  obtain ⟨sq, e⟩ := floyd_at h.tab.sq h.nn
  have le := Nat.le_refl n
  have nn := nn_fl h.nn n le
  refine ⟨⟨sq, fun a b ha hb => ?_, fun a b ha hb => ?_, fun a ha => ?_⟩, fun i j hi hj hij => ?_, fun m i j hm hi hj => ?_⟩
  · rw [e a b ha hb, e b a hb ha]; exact fl_sym h.tab.sy n le a b ha hb
  · rw [e a b ha hb]
    have h1 := fl_le (n := n) (f := at2 T) n a b
    have h2 := (h.tab.rg a b ha hb).2
    have h3 := nn.pos a b ha hb
    omega
  · rw [e a a ha ha]; exact nn.dg a ha
  · rw [e i j hi hj]; exact fl_pos h.nn h.ps n le i j hi hj hij
  · rw [e i j hi hj, e i m hi hm, e m j hm hj]; exact fl_tri h.nn n le m hm i j hi hj
theorem dst_floydX {n : Nat} {top : Int} {T : List (List Int)} (h : Ptab n top T) (ht : top ≤ 1000) : Dst n (floydX n T) := by
  obtain ⟨sq, e⟩ := floyd_atX h.tab.sq h.nn
  have le := Nat.le_refl n
  have nn := nn_flX h.nn n le
  refine ⟨⟨sq, fun a b ha hb => ?_, fun a b ha hb => ?_, fun a ha => ?_⟩, fun i j hi hj hij => ?_, fun m i j hm hi hj => ?_⟩
  · rw [e a b ha hb, e b a hb ha]; exact fl_symX h.tab.sy n le a b ha hb
  · rw [e a b ha hb]
    have h1 := fl_leX (n := n) (f := at2 T) n a b
    have h2 := (h.tab.rg a b ha hb).2
    have h3 := nn.pos a b ha hb
    omega
  · rw [e a a ha ha]; exact nn.dg a ha
  · rw [e i j hi hj]; exact fl_posX h.nn h.ps n le i j hi hj hij
  · rw [e i j hi hj, e i m hi hm, e m j hm hj]
    have h1 := fl_triX h.nn n le m hm i j hi hj
    have h2 := nn.pos i m hi hm
    have h3 := nn.pos m j hm hj
    omega
theorem dst_tree {n m : Nat} {V : List Nat} {E : List Edg} {dd : Nat → Nat → Int} {top : Int} (h : Tr V E dd top) (hV : V.Perm (List.range m)) (hn : n ≤ m) (ht : top ≤ 1000) : Dst n (fnT n dd) := by
  have mem : ∀ x, x < n → x ∈ V := fun x hx => by rw [hV.mem_iff, List.mem_range]; omega
  refine ⟨⟨fnT_sq n dd, fun a b ha hb => ?_, fun a b ha hb => ?_, fun a ha => ?_⟩, fun i j hi hj hij => ?_, fun k i j hk hi hj => ?_⟩
  · rw [fnT_at dd ha hb, fnT_at dd hb ha]; exact h.sy a (mem a ha) b (mem b hb)
  · rw [fnT_at dd ha hb]
    have h1 := h.bd a (mem a ha) b (mem b hb)
    by_cases q : a = b
    · subst q
      have := h.dg a (mem a ha)
      omega
    · have := h.ps a (mem a ha) b (mem b hb) q
      omega
  · rw [fnT_at dd ha ha]; exact h.dg a (mem a ha)
  · rw [fnT_at dd hi hj]; exact h.ps i (mem i hi) j (mem j hj) hij
  · rw [fnT_at dd hi hj, fnT_at dd hi hk, fnT_at dd hk hj]; exact h.tr i (mem i hi) k (mem k hk) j (mem j hj)
def tlL : D → List D
  | .lst r => r
  | _ => []
theorem fnT_cut {n m : Nat} (dd : Nat → Nat → Int) (hn : n ≤ m) : (((ooF m fun x y => some (dd x y)).map D.lst).take n).map (fun d => D.tup ((tlL d).take n)) = (fnT n dd).map ti := by
  unfold ooF fnT ti
  rw [← List.map_take, ← List.map_take, List.map_map, List.map_map, List.map_map, List.take_range, Nat.min_eq_left hn]
  refine List.map_congr_left fun i _ => ?_
  simp only [Function.comp, tlL]
  rw [← List.map_take, List.take_range, Nat.min_eq_left hn, List.map_map]
  rfl
end Fx
end

section
set_option linter.all false
set_option maxRecDepth 10000
namespace Fx
/-- a loop that may hand back -/
theorem forGo_find {α : Type} {g : D → En → Option En} {b : C} (h : α → D) (I : En → Prop) (P : α → Option Vl) : ∀ (l : List α) (e : En), I e →
    (∀ a ∈ l, ∀ e, I e → ∃ e1 e2, g (h a) e = some e1 ∧ I e2 ∧ b e1 = (match P a with | none => .nxt e2 | some x => .ret x e2)) →
    ∃ e', I e' ∧ forGo g b (l.map h) e = (match l.findSome? P with | none => .nxt e' | some x => .ret x e')
  | [], e, hi, _ => ⟨e, hi, rfl⟩
  | a :: l, e, hi, hh => by
    obtain ⟨e1, e2, h1, h2, h3⟩ := hh a (by simp) e hi
    rw [List.map_cons]
    cases hp : P a with
    | some x =>
      rw [hp] at h3
      refine ⟨e2, h2, ?_⟩
      unfold forGo
      simp only [h1, h3, List.findSome?_cons, hp]
    | none =>
      rw [hp] at h3
      obtain ⟨e', h4, h5⟩ := forGo_find h I P l e2 h2 fun a ha => hh a (by simp [ha])
      refine ⟨e', h4, ?_⟩
      conv => lhs; unfold forGo
      simp only [h1, h3, List.findSome?_cons, hp]
      exact h5
/-! rows of places that grow -/
def lo (row : List Nat) : Nat := match row.getLast? with
  | none => 0
  | some x => x + 1
def chStep (n : Nat) (rows : List (List Nat)) : List (List Nat) := rows.flatMap fun row => (List.range' (lo row) (n - lo row)).map fun t => row ++ [t]
def chK (n : Nat) : Nat → List (List Nat)
  | 0 => [[]]
  | k + 1 => chStep n (chK n k)
theorem chK_mem {n : Nat} : ∀ {k : Nat} {row : List Nat}, row ∈ chK n k → row.length = k ∧ (∀ x ∈ row, x < n) ∧ row.Pairwise (· < ·)
  | 0, row, h => by simp [chK] at h; simp [h]
  | k + 1, row, h => by
    unfold chK chStep at h
    obtain ⟨r, hr, h2⟩ := List.mem_flatMap.mp h
    obtain ⟨t, ht, rfl⟩ := List.mem_map.mp h2
    obtain ⟨h3, h4, h5⟩ := chK_mem hr
    rw [List.mem_range'_1] at ht
    refine ⟨by simp [h3], fun x hx => ?_, ?_⟩
    · rcases List.mem_append.mp hx with q | q
      · exact h4 x q
      · simp at q; omega
    · rw [List.pairwise_append]
      refine ⟨h5, by simp, fun a ha b hb => ?_⟩
      simp at hb
      subst hb
      rcases List.eq_nil_or_concat r with rfl | ⟨r', z, rfl⟩
      · simp at ha
      · rw [List.concat_eq_append] at *
        have hl : lo (r' ++ [z]) = z + 1 := by unfold lo; simp
        rw [List.pairwise_append] at h5
        rcases List.mem_append.mp ha with q | q
        · have := h5.2.2 a q z (by simp); omega
        · simp at q; omega
theorem chStep_le (n : Nat) : ∀ rows : List (List Nat), (chStep n rows).length ≤ rows.length * n
  | [] => by simp [chStep]
  | a :: l => by
    unfold chStep
    rw [List.flatMap_cons, List.length_append, List.length_map, List.length_cons, Nat.add_mul, Nat.one_mul, List.length_range']
    have h2 := chStep_le n l
    unfold chStep at h2
    omega
theorem chK_le (n : Nat) : ∀ k, (chK n k).length ≤ n ^ k
  | 0 => by simp [chK]
  | k + 1 => by
    unfold chK
    refine Nat.le_trans (chStep_le n _) ?_
    rw [Nat.pow_succ]
    exact Nat.mul_le_mul_right n (chK_le n k)
theorem ch_bound {n k : Nat} (h8 : n ≤ 8) (hk : k < 8) : (chK n k).length * n ≤ lim := by
  have h1 := Nat.mul_le_mul_right n (chK_le n k)
  rw [← Nat.pow_succ] at h1
  have h2 : n ^ (k + 1) ≤ 8 ^ 8 := Nat.le_trans (Nat.pow_le_pow_left h8 _) (Nat.pow_le_pow_right (by omega) (by omega))
  have h3 : 8 ^ 8 ≤ lim := by unfold lim; decide
  exact Nat.le_trans h1 (Nat.le_trans h2 h3)
theorem rng_from (a n : Nat) : rng (a : Int) n = (List.range' a n).map fun (t : Nat) => D.int (t : Int) := by
  unfold rng
  rw [List.range'_eq_map_range, List.map_map]
  refine List.map_congr_left fun k _ => ?_
  simp only [Function.comp]
  congr 1
  all_goals omega
theorem ix_last (row : List Nat) (z : Nat) : oIx (.v (oi (row ++ [z]))) (.v (.int (-1))) = some (.v (.int (z : Int))) := by
  rw [ix_v _ _ _ (oi_items _)]
  unfold atD ixN
  simp only [List.length_map, List.length_append, List.length_singleton]
  rw [if_neg (by omega), if_pos (by omega)]
  have : ((-1 : Int) + ((row.length + 1 : Nat) : Int)).toNat = row.length := by omega
  rw [Option.bind_some, this]
  all_goals simp
end Fx
end

section
set_option linter.all false
set_option maxRecDepth 10000
namespace Fx
/-! distance_paper -/
def a0 (r : List Nat) : Nat := r.getD 0 0
def a1 (r : List Nat) : Nat := r.getD 1 0
theorem ch2 {n : Nat} {r : List Nat} (h : r ∈ chK n 2) : ∃ a b, r = [a, b] ∧ a < b ∧ b < n := by
  obtain ⟨h1, h2, h3⟩ := chK_mem h
  match r, h1 with
  | [a, b], _ => exact ⟨a, b, rfl, by simpa using h3, h2 b (by simp)⟩
def sameP (T : List (List Int)) (r : List Nat) : Option D := if at2 T (a0 r) (a1 r) = 0 then some (.tup [.str "same", .int (a0 r : Nat), .int (a1 r : Nat)]) else none
def shortP (T : List (List Int)) (r : List Nat) (c : Nat) : Option D := if at2 T (a0 r) c + at2 T c (a1 r) < at2 T (a0 r) (a1 r) then some (.tup [.str "short", .int (a0 r : Nat), .int (c : Int), .int (a1 r : Nat)]) else none
/-- all faults, in the order in which they are told -/
def faults (T : List (List Int)) (n : Nat) : List D := (chK n 2).filterMap (sameP T) ++ (chK n 2).flatMap fun r => (List.range n).filterMap (shortP T r)
def dpD (T : List (List Int)) (n : Nat) : D := (faults T n).head?.getD (.tup [.str "distances"])
theorem head_filterMap {α β : Type} (f : α → Option β) : ∀ l : List α, (l.filterMap f).head? = l.findSome? f
  | [] => rfl
  | a :: l => by
    rw [List.filterMap_cons, List.findSome?_cons]
    cases f a with
    | none => exact head_filterMap f l
    | some x => rfl
theorem head_flatMap {α β : Type} (f : α → List β) : ∀ l : List α, (l.flatMap f).head? = l.findSome? fun a => (f a).head?
  | [] => rfl
  | a :: l => by
    rw [List.flatMap_cons, List.findSome?_cons]
    cases h : f a with
    | nil => simp [head_flatMap f l]
    | cons x r => simp
theorem findSome_map {α β γ : Type} (f : α → Option β) (g : β → γ) (l : List α) : l.findSome? (fun a => (f a).map g) = (l.findSome? f).map g := by
  induction l with
  | nil => rfl
  | cons a l ih =>
    rw [List.findSome?_cons, List.findSome?_cons]
    cases f a <;> simp [ih]
end Fx
end

section
set_option linter.all false
set_option maxRecDepth 10000
namespace Fx
/-- a comprehension with any target, nothing else changed -/
theorem compGoG {vs : List Nat} {g : D → En → Option En} {t : M Bool} {x : M Vl} {e : En} (P : D → Bool) (f : D → D) (e' : D → En) : ∀ (l acc : List D),
    (∀ d ∈ l, g d e = some (e' d) ∧ t (e' d) = .ok (P d) (e' d) ∧ hide (e' d) vs = e) → (∀ d ∈ l, P d = true → ∃ y, x (e' d) = .ok y (e' d) ∧ y.d = some (f d)) →
    compGo vs g t x l acc e = .ok (acc ++ (l.filter P).map f) e
  | [], acc, _, _ => by simp [compGo]
  | d :: l, acc, ht, hx => by
    obtain ⟨h1, h2, h3⟩ := ht d (by simp)
    unfold compGo
    simp only [h1, h2]
    cases hp : P d with
    | false =>
      simp only [h3]
      rw [compGoG P f e' l acc (fun d q => ht d (by simp [q])) (fun d q => hx d (by simp [q]))]
      simp [hp]
    | true =>
      obtain ⟨y, h4, h5⟩ := hx d (by simp) hp
      simp only [h4, h5, h3]
      rw [compGoG P f e' l _ (fun d q => ht d (by simp [q])) (fun d q => hx d (by simp [q]))]
      simp [hp]
theorem eCompG {vs : List Nat} {it : M (List D)} {g : D → En → Option En} {t : M Bool} {x : M Vl} {e e1 : En} {l : List D} (P : D → Bool) (f : D → D) (e' : D → En) (hit : it e = .ok l e1) (hl : l.length ≤ lim) (hh : hide e1 vs = e1) (hu : unhide e1 e1 vs = e1)
    (ht : ∀ d ∈ l, g d e1 = some (e' d) ∧ t (e' d) = .ok (P d) (e' d) ∧ hide (e' d) vs = e1) (hx : ∀ d ∈ l, P d = true → ∃ y, x (e' d) = .ok y (e' d) ∧ y.d = some (f d)) :
    eComp vs it g t x e = .ok (.o ((l.filter P).map f)) e1 := by
  have h := compGoG (vs := vs) P f e' l [] ht hx
  unfold eComp
  simp only [hit, Rs.then, hl, if_true, hh, h, List.nil_append, hu]
theorem mem_ch2 {n a b : Nat} (hab : a < b) (hb : b < n) : [a, b] ∈ chK n 2 := by
  unfold chK chStep
  refine List.mem_flatMap.mpr ⟨[a], ?_, ?_⟩
  · unfold chK chStep
    refine List.mem_flatMap.mpr ⟨[], by simp [chK], ?_⟩
    refine List.mem_map.mpr ⟨a, ?_, rfl⟩
    rw [List.mem_range'_1]
    simp [lo]; omega
  · refine List.mem_map.mpr ⟨b, ?_, rfl⟩
    rw [List.mem_range'_1]
    simp [lo]; omega
theorem faults_nil {T : List (List Int)} {n : Nat} (h : Dst n T) : faults T n = [] := by
  unfold faults
  rw [List.append_eq_nil_iff]
  constructor
  · rw [List.filterMap_eq_nil_iff]
    intro r hr
    obtain ⟨a, b, rfl, hab, hb⟩ := ch2 hr
    have := h.ps a b (by omega) hb (by omega)
    unfold sameP a0 a1
    rw [if_neg (by simp; omega)]
  · rw [List.flatMap_eq_nil_iff]
    intro r hr
    obtain ⟨a, b, rfl, hab, hb⟩ := ch2 hr
    rw [List.filterMap_eq_nil_iff]
    intro c hc
    rw [List.mem_range] at hc
    have := h.tr c a b hc (by omega) hb
    unfold shortP a0 a1
    rw [if_neg (by simp; omega)]
theorem faults_dst {T : List (List Int)} {n : Nat} (hT : TabI n 1000 T) (h : faults T n = []) : Dst n T := by
  unfold faults at h
  rw [List.append_eq_nil_iff, List.filterMap_eq_nil_iff, List.flatMap_eq_nil_iff] at h
  obtain ⟨h1, h2⟩ := h
  have ps : ∀ i j, i < j → j < n → 0 < at2 T i j := fun i j hij hj => by
    have := h1 _ (mem_ch2 hij hj)
    unfold sameP a0 a1 at this
    have h3 := (hT.rg i j (by omega) hj).1
    simp at this
    omega
  have tr : ∀ m i j, m < n → i < j → j < n → at2 T i j ≤ at2 T i m + at2 T m j := fun m i j hm hij hj => by
    have h3 := h2 _ (mem_ch2 hij hj)
    rw [List.filterMap_eq_nil_iff] at h3
    have := h3 m (by simpa using hm)
    unfold shortP a0 a1 at this
    simp at this
    omega
  refine ⟨hT, fun i j hi hj hij => ?_, fun m i j hm hi hj => ?_⟩
  · rcases Nat.lt_or_ge i j with q | q
    · exact ps i j q hj
    · rw [hT.sy i j hi hj]; exact ps j i (by omega) hi
  · rcases Nat.lt_trichotomy i j with q | q | q
    · exact tr m i j hm q hj
    · subst q
      have h1 := hT.dg i hi
      have h2 := (hT.rg i m hi hm).1
      have h3 := (hT.rg m i hm hi).1
      omega
    · have h1 := tr m j i hm q hi
      rw [hT.sy i j hi hj, hT.sy i m hi hm, hT.sy m j hm hj]
      omega
theorem fault_form {T : List (List Int)} {n : Nat} {d : D} (h : d ∈ faults T n) : (∃ a b, a < b ∧ b < n ∧ d = .tup [.str "same", .int (a : Nat), .int (b : Nat)] ∧ at2 T a b = 0) ∨ (∃ a b c, a < b ∧ b < n ∧ c < n ∧ d = .tup [.str "short", .int (a : Nat), .int (c : Nat), .int (b : Nat)] ∧ at2 T a c + at2 T c b < at2 T a b) := by
  unfold faults at h
  rcases List.mem_append.mp h with h | h
  · left
    obtain ⟨r, hr, h⟩ := List.mem_filterMap.mp h
    obtain ⟨a, b, rfl, hab, hb⟩ := ch2 hr
    unfold sameP a0 a1 at h
    split at h
    · rename_i q
      cases h
      exact ⟨a, b, hab, hb, rfl, q⟩
    · cases h
  · right
    obtain ⟨r, hr, h⟩ := List.mem_flatMap.mp h
    obtain ⟨a, b, rfl, hab, hb⟩ := ch2 hr
    obtain ⟨c, hc, h⟩ := List.mem_filterMap.mp h
    unfold shortP a0 a1 at h
    split at h
    · rename_i q
      cases h
      exact ⟨a, b, c, hab, hb, by simpa using hc, rfl, q⟩
    · cases h
theorem dpD_str1 (T : List (List Int)) (n : Nat) : isStr1 "distances" (dpD T n) = (faults T n).isEmpty := by
  unfold dpD
  cases h : faults T n with
  | nil => simp [isStr1, isStr]
  | cons d r =>
    have hd : d ∈ faults T n := by rw [h]; simp
    rcases fault_form hd with ⟨a, b, _, _, rfl, _⟩ | ⟨a, b, c, _, _, _, rfl, _⟩ <;> simp [isStr1]
def tErr (c : String) : Ex := ⟨"TableError", [("code", .str c)]⟩
end Fx
end

section
set_option linter.all false
set_option maxRecDepth 10000
namespace Fx
mutual
theorem eq_refl : ∀ d : D, D.eq d d = true
  | .non => rfl
  | .bl b => by simp [D.eq]
  | .int i => by simp [D.eq]
  | .str s => by simp [D.eq]
  | .tup l => by simp only [D.eq]; exact eqs_refl l
  | .lst l => by simp only [D.eq]; exact eqs_refl l
theorem eqs_refl : ∀ l : List D, D.eqs l l = true
  | [] => rfl
  | a :: l => by simp only [D.eqs, eq_refl a, eqs_refl l, Bool.and_self]
end
theorem oNe_self (d : D) (h : d.dep ≤ 64) : oNe (.v d) (.v d) = some (.v (.bl false)) := by
  rw [oNe_sm _ _ h, eq_refl]
  rfl
theorem tab_floyd {n : Nat} {top : Int} {T : List (List Int)} (h : TabI n top T) : TabI n top (floyd n T) := by
  have hnn : Nn n (at2 T) := ⟨fun i j hi hj => (h.rg i j hi hj).1, fun i hi => h.dg i hi⟩
  obtain ⟨sq, e⟩ := floyd_at h.sq hnn
  have le := Nat.le_refl n
  have nn := nn_fl hnn n le
  refine ⟨sq, fun a b ha hb => ?_, fun a b ha hb => ?_, fun a ha => ?_⟩
  · rw [e a b ha hb, e b a hb ha]; exact fl_sym h.sy n le a b ha hb
  · rw [e a b ha hb]
    have h1 := fl_le (n := n) (f := at2 T) n a b
    have h2 := (h.rg a b ha hb).2
    have h3 := nn.pos a b ha hb
    omega
  · rw [e a a ha ha]; exact nn.dg a ha
theorem tri_floyd {n : Nat} {top : Int} {T : List (List Int)} (h : TabI n top T) : ∀ m i j, m < n → i < n → j < n → at2 (floyd n T) i j ≤ at2 (floyd n T) i m + at2 (floyd n T) m j := fun m i j hm hi hj => by
  have hnn : Nn n (at2 T) := ⟨fun i j hi hj => (h.rg i j hi hj).1, fun i hi => h.dg i hi⟩
  obtain ⟨sq, e⟩ := floyd_at h.sq hnn
  rw [e i j hi hj, e i m hi hm, e m j hm hj]
  exact fl_tri hnn n (Nat.le_refl n) m hm i j hi hj
theorem le_floyd {n : Nat} {top : Int} {T : List (List Int)} (h : TabI n top T) {i j : Nat} (hi : i < n) (hj : j < n) : at2 (floyd n T) i j ≤ at2 T i j := by
  have hnn : Nn n (at2 T) := ⟨fun i j hi hj => (h.rg i j hi hj).1, fun i hi => h.dg i hi⟩
  obtain ⟨sq, e⟩ := floyd_at h.sq hnn
  rw [e i j hi hj]
  exact fl_le (n := n) n i j
theorem floyd_same {n : Nat} {top : Int} {T : List (List Int)} (h : TabI n top T) (ht : ∀ m i j, m < n → i < n → j < n → at2 T i j ≤ at2 T i m + at2 T m j) : floyd n T = T :=
  floyd_id h.sq ⟨fun i j hi hj => (h.rg i j hi hj).1, fun i hi => h.dg i hi⟩ ht
/-- a comprehension whose name holds data before and after -/
theorem eComp1V {k : Nat} {it : M (List D)} {t : M Bool} {x : M Vl} {e f1 : En} {l : List D} {d0 : D} (P : D → Bool) (f : D → D) (hit : it e = .ok l f1) (hl : l.length ≤ lim) (hk : f1[k]? = some (some (.v d0)))
    (ht : ∀ d ∈ l, t (f1.set k (some (.v d))) = .ok (P d) (f1.set k (some (.v d)))) (hx : ∀ d ∈ l, P d = true → ∃ y, x (f1.set k (some (.v d))) = .ok y (f1.set k (some (.v d))) ∧ y.d = some (f d)) :
    eComp [k] it (gN k) t x e = .ok (.o ((l.filter P).map f)) f1 := by
  have h := compGo1 (k := k) (e := f1) P f l [] ht hx
  unfold eComp
  simp only [hit, Rs.then, hl, if_true, hide, h, unhide, List.nil_append, hk, List.set_set]
  have : f1.set k (keepD (some (some (.v d0)))) = f1 := by
    show f1.set k (some (.v d0)) = f1
    apply List.ext_getElem?
    intro j
    by_cases hj : k = j
    · subst hj
      rw [List.getElem?_set_self (by rcases Nat.lt_or_ge k f1.length with q | q; exact q; rw [List.getElem?_eq_none q] at hk; cases hk), hk]
    · rw [List.getElem?_set_ne hj]
  rw [this]
theorem eCompAV {k : Nat} {it : M (List D)} {x : M Vl} {e f1 : En} {l : List D} {d0 : D} (f : D → D) (hit : it e = .ok l f1) (hl : l.length ≤ lim) (hk : f1[k]? = some (some (.v d0)))
    (hx : ∀ d ∈ l, ∃ y, x (f1.set k (some (.v d))) = .ok y (f1.set k (some (.v d))) ∧ y.d = some (f d)) :
    eComp [k] it (gN k) tYes x e = .ok (.o (l.map f)) f1 := by
  have h := eComp1V (t := tYes) (fun _ => true) f hit hl hk (fun _ _ => rfl) (fun d q _ => hx d q)
  rw [List.filter_eq_self.mpr (by simp)] at h
  exact h
/-- a table of numbers, by rows -/
theorem fnT_tt (n : Nat) (f : Nat → Nat → Int) : (rng 0 n).map (fun d => ti ((List.range n).map fun j => f d.nat j)) = (fnT n f).map ti := by
  unfold rng fnT
  rw [List.map_map, List.map_map]
  refine List.map_congr_left fun i _ => ?_
  simp [D.nat]
theorem row_ints (n : Nat) (g : Nat → Int) : (rng 0 n).map (fun c => D.int (g c.nat)) = ((List.range n).map g).map .int := by
  unfold rng
  rw [List.map_map, List.map_map]
  refine List.map_congr_left fun i _ => ?_
  simp [D.nat]
theorem sub_perm {α : Type} [DecidableEq α] : ∀ (l m : List α), l.Nodup → (∀ x ∈ l, x ∈ m) → ∃ r, (l ++ r).Perm m
  | [], m, _, _ => ⟨m, List.Perm.refl _⟩
  | a :: l, m, hn, hs => by
    obtain ⟨h1, h2⟩ := List.nodup_cons.mp hn
    have ha := hs a (by simp)
    obtain ⟨r, hr⟩ := sub_perm l (m.erase a) h2 fun x hx => (List.mem_erase_of_ne (fun (q : x = a) => h1 (q ▸ hx))).mpr (hs x (by simp [hx]))
    exact ⟨r, (hr.cons a).trans (List.perm_cons_erase ha).symm⟩
theorem sub_len {α : Type} [DecidableEq α] {l m : List α} (hn : l.Nodup) (hs : ∀ x ∈ l, x ∈ m) : l.length ≤ m.length := by
  obtain ⟨r, hr⟩ := sub_perm l m hn hs
  have := hr.length_eq
  rw [List.length_append] at this
  omega
end Fx
end

section
set_option linter.all false
set_option maxRecDepth 10000
/-! Hp: the paper is right; common. -/
namespace Fx
theorem c112_ps : c112.Ps := ⟨by decide, by decide, by decide⟩
theorem common_ok {a b : List Int} (ha : a.length ≤ 8) (hb : b.length ≤ 8) : G.F_common [.v (ti a), .v (ti b)] = .ok (.v (.int (((a.length : Int) + (b.length : Int) - eC' c112 a b) / 2))) [] := by
  have h1 : G.F_edit_table [.v (ti a), .v (ti b), .v (.tup [.int 1, .int 1, .int 2])] = .ok (.v (tt (eT c112 a b))) [] := by
    have e : csD c112 = .tup [.int 1, .int 1, .int 2] := rfl
    have h := edit_table_ok (c := c112) ha hb c112_ps (by decide)
    rw [e] at h
    exact h
  have q1 := neg1_tt c112 a b
  have q2 := neg1_row c112 a b
  have la := ti_len' a
  have lb := ti_len' b
  suffices hz : ∃ e', G.c_common [some (.v (ti a)), some (.v (ti b)), none] = .ret (.v (.int (((a.length : Int) + (b.length : Int) - eC' c112 a b) / 2))) e' by
    obtain ⟨e', hz⟩ := hz
    exact run_of (os := []) hz rfl
  refine ⟨[some (.v (ti a)), some (.v (ti b)), some (.v (.int (eC' c112 a b)))], ?_⟩
  unfold G.c_common
  have s0 : G.common_0 [some (.v (ti a)), some (.v (ti b)), none] = .nxt [some (.v (ti a)), some (.v (ti b)), some (.v (.int (eC' c112 a b)))] := by
    unfold G.common_0
    generalize ti (rowE (eD c112 a b a.length) (b.length + 1)) = R at *
    generalize tt (eT c112 a b) = T at *
    generalize ti a = A at *
    generalize ti b = B at *
    simp [h1, q1, q2, neg_1]
  rw [seq_nxt s0]
  unfold G.common_1
  have d2 : divOk 2 = true := by decide
  generalize ti a = A at *
  generalize ti b = B at *
  generalize eC' c112 a b = v at *
  simp [la, lb, oDiv, d2, -len_v]
/-- the greatest row of signs that both have -/
theorem best_ms (a b : List Int) : ∃ L : Nat, ((a.length : Int) + (b.length : Int) - eC' c112 a b) / 2 = (L : Int) ∧ (∃ l, MS a b a.length b.length l ∧ l.length = L) ∧ ∀ l, MS a b a.length b.length l → l.length ≤ L := by
  obtain ⟨l, h1, h2⟩ := er_ms (eD_way c112 a b a.length b.length)
  have h3 := eD_le (ms_er h1)
  have e : eC' c112 a b = (a.length : Int) + (b.length : Int) - 2 * (l.length : Int) := by
    unfold eC'
    omega
  refine ⟨l.length, by rw [e]; omega, ⟨l, h1, rfl⟩, fun l' h' => ?_⟩
  have := eD_le (ms_er h')
  unfold eC' at e
  omega
theorem eT_at (c : Cst) (a b : List Int) {i j : Nat} (hi : i ≤ a.length) (hj : j ≤ b.length) : at2 (eT c a b) i j = eD c a b i j := by
  unfold at2 eT rowE
  simp [List.getD, show i < a.length + 1 by omega, show j < b.length + 1 by omega]
theorem eT_rc (c : Cst) (a b : List Int) : Rc (a.length + 1) (b.length + 1) (eT c a b) := ⟨by simp [eT], fun r hr => by
  unfold eT at hr
  obtain ⟨i, _, rfl⟩ := List.mem_map.mp hr
  exact rowE_len _ _⟩
theorem wL_isS (l : List Wd4) : (wL l).all isS = true := by simp [wL, isS]
theorem wL_sv (l : List Wd4) : (wL l).map D.sv = l.map Wd4.s := by unfold wL; rw [List.map_map]; rfl
theorem val_pap {c : Cst} (hc : c.Ps) (a b : List Int) : valE c a b (papE c a b) = true := by
  show ((wL (script c a b)).all isS && (D.eq (costD c a b ((wL (script c a b)).map D.sv)) (.int (eC' c a b)) && valT c a b (eC' c a b) (tt (eT c a b)))) = true
  rw [wL_isS, wL_sv, cost_script hc, eq_refl]
  unfold valT
  rw [isTabI_tt _ (eT_rc c a b).len (eT_rc c a b).row, tabOf_tt, eT_at c a b (Nat.zero_le _) (Nat.zero_le _), eT_at c a b (Nat.le_refl _) (Nat.le_refl _), eD_00]
  have hg : growsB c a b (eT c a b) = true := by
    unfold growsB
    rw [List.all_eq_true]
    intro i hi
    rw [List.all_eq_true]
    intro j hj
    have hi' := List.mem_range.mp hi
    have hj' := List.mem_range.mp hj
    unfold growB
    rw [eT_at c a b (by omega) (by omega), eT_at c a b (by omega) (by omega), eT_at c a b (by omega) (by omega), eT_at c a b (by omega) (by omega)]
    simp only [Bool.and_eq_true, Bool.or_eq_true, decide_eq_true_eq]
    refine ⟨?_, ?_, ?_⟩
    · rcases Nat.eq_zero_or_pos i with z | z
      · exact .inl z
      · right
        obtain ⟨i', rfl⟩ : ∃ i', i = i' + 1 := ⟨i - 1, by omega⟩
        exact eD_drop i' j
    · rcases Nat.eq_zero_or_pos j with z | z
      · exact .inl z
      · right
        obtain ⟨j', rfl⟩ : ∃ j', j = j' + 1 := ⟨j - 1, by omega⟩
        exact eD_add i j'
    · rcases Nat.eq_zero_or_pos i with z | z
      · exact .inl (.inl z)
      · rcases Nat.eq_zero_or_pos j with y | y
        · exact .inl (.inr y)
        · right
          obtain ⟨i', rfl⟩ : ∃ i', i = i' + 1 := ⟨i - 1, by omega⟩
          obtain ⟨j', rfl⟩ : ∃ j', j = j' + 1 := ⟨j - 1, by omega⟩
          exact eD_sub i' j'
  rw [hg]
  simp [eC']
theorem script_len {c : Cst} (h : c.Ps) (a b : List Int) : (script c a b).length ≤ a.length + b.length := by
  unfold script
  rw [List.length_reverse]
  exact (scr_run h (a.length + b.length) a.length b.length (Nat.le_refl _) (Nat.le_refl _) (Nat.le_refl _)).2
theorem bd_ti {k w : Nat} (r : List Int) (h : r.length ≤ w) : Bd (k + 1) w (ti r) := bd_tup.mpr ⟨by simpa using h, fun x hx => by
  obtain ⟨y, _, rfl⟩ := List.mem_map.mp hx
  exact bd_int _⟩
theorem bd_tt {k w : Nat} (T : List (List Int)) (h : T.length ≤ w) (h2 : ∀ r ∈ T, r.length ≤ w) : Bd (k + 2) w (tt T) := bd_tup.mpr ⟨by simpa using h, fun x hx => by
  obtain ⟨y, hy, rfl⟩ := List.mem_map.mp hx
  exact bd_ti _ (h2 y hy)⟩
theorem bd_wL {k w : Nat} (l : List Wd4) (h : l.length ≤ w) : Bd (k + 1) w (.tup (wL l)) := bd_tup.mpr ⟨by simpa [wL] using h, fun x hx => by
  unfold wL at hx
  obtain ⟨y, _, rfl⟩ := List.mem_map.mp hx
  exact bd_str _⟩
theorem bd_3 {k w : Nat} {x y z : D} (hw : 3 ≤ w) (h1 : Bd k w x) (h2 : Bd k w y) (h3 : Bd k w z) : Bd (k + 1) w (.tup [x, y, z]) := bd_tup.mpr ⟨by simpa using hw, fun u hu => by
  simp only [List.mem_cons, List.not_mem_nil, or_false] at hu
  rcases hu with rfl | rfl | rfl
  · exact h1
  · exact h2
  · exact h3⟩
theorem dep_csD (c : Cst) : (csD c).dep ≤ 1 := by simp [csD, D.dep, D.deps]
end Fx
end

section
set_option linter.all false
/-! Ia: words joined and turned: no program in sight. -/
namespace Fx
theorem sg_app_lt (a b : List Int) {i : Nat} (h : i < a.length) : sg (a ++ b) i = sg a i := by
  unfold sg List.getD
  rw [List.getElem?_append_left h]
theorem sg_app_ge (a b : List Int) (i : Nat) : sg (a ++ b) (a.length + i) = sg b i := by
  unfold sg List.getD
  rw [List.getElem?_append_right (by omega)]
  congr 2
  omega
theorem er_pre {c : Cst} {a1 a2 b1 b2 : List Int} {i j : Nat} {k : Int} (h : ER c a1 b1 i j k) (hi : i ≤ a1.length) (hj : j ≤ b1.length) : ER c (a1 ++ a2) (b1 ++ b2) i j k := by
  induction h with
  | z => exact .z
  | @d i j k _ ih => exact .d (ih (by omega) hj)
  | @n i j k _ ih => exact .n (ih hi (by omega))
  | @s i j k _ ih =>
    have e : stp c a1 b1 i j = stp c (a1 ++ a2) (b1 ++ b2) i j := by
      unfold stp
      rw [sg_app_lt a1 a2 (by omega), sg_app_lt b1 b2 (by omega)]
    rw [e]
    exact .s (ih (by omega) (by omega))
theorem er_app {c : Cst} {a1 a2 b1 b2 : List Int} {k1 : Int} (h1 : ER c (a1 ++ a2) (b1 ++ b2) a1.length b1.length k1) {i j : Nat} {k : Int} (h : ER c a2 b2 i j k) : ER c (a1 ++ a2) (b1 ++ b2) (a1.length + i) (b1.length + j) (k1 + k) := by
  induction h with
  | z => simpa using h1
  | @d i j k _ ih =>
    have := ER.d ih
    rwa [Int.add_assoc] at this
  | @n i j k _ ih =>
    have := ER.n ih
    rwa [Int.add_assoc] at this
  | @s i j k _ ih =>
    have := ER.s ih
    have e : stp c (a1 ++ a2) (b1 ++ b2) (a1.length + i) (b1.length + j) = stp c a2 b2 i j := by
      unfold stp
      rw [sg_app_ge, sg_app_ge]
    rw [e, Int.add_assoc] at this
    exact this
/-- words one behind the other -/
theorem eC_app (c : Cst) (a1 a2 b1 b2 : List Int) : eC' c (a1 ++ a2) (b1 ++ b2) ≤ eC' c a1 b1 + eC' c a2 b2 := by
  have h := er_app (er_pre (a2 := a2) (b2 := b2) (eD_way c a1 b1 a1.length b1.length) (Nat.le_refl _) (Nat.le_refl _)) (eD_way c a2 b2 a2.length b2.length)
  have := eD_le h
  unfold eC'
  rw [List.length_append, List.length_append]
  exact this
theorem eC_dr (c : Cst) (x : Int) : eC' c [x] [] = c.dr := by
  show eD c [x] [] 1 0 = _
  rw [eD_s0, eD_00]
  omega
theorem eC_ad (c : Cst) (x : Int) : eC' c [] [x] = c.ad := by
  show eD c [] [x] 0 1 = _
  rw [eD_0s, eD_00]
  omega
theorem eC_st {c : Cst} (x y : Int) : eC' c [x] [y] ≤ if x = y then 0 else c.ch := by
  have : eD c [x] [y] 1 1 ≤ eD c [x] [y] 0 0 + stp c [x] [y] 0 0 := eD_sub (c := c) (a := [x]) (b := [y]) 0 0
  rw [eD_00] at this
  have e : stp c [x] [y] 0 0 = if x = y then 0 else c.ch := rfl
  rw [e] at this
  show eD c [x] [y] 1 1 ≤ _
  omega
theorem eC_nil (c : Cst) : eC' c [] [] = 0 := eD_00
/-! turned words -/
theorem eC_rev1 {c : Cst} {a b : List Int} {i j : Nat} {k : Int} (h : ER c a b i j k) (hi : i ≤ a.length) (hj : j ≤ b.length) : eC' c (a.take i).reverse (b.take j).reverse ≤ k := by
  induction h with
  | z => simp [eC_nil]
  | @d i j k _ ih =>
    have := ih (by omega) hj
    rw [take_succ_sg (by omega), List.reverse_append]
    have h2 := eC_app c [sg a i].reverse (a.take i).reverse [] (b.take j).reverse
    rw [List.reverse_singleton, eC_dr] at h2
    rw [List.nil_append] at h2
    rw [List.reverse_singleton]
    omega
  | @n i j k _ ih =>
    have := ih hi (by omega)
    rw [take_succ_sg (by omega : j < b.length), List.reverse_append]
    have h2 := eC_app c [] (a.take i).reverse [sg b j].reverse (b.take j).reverse
    rw [List.reverse_singleton, eC_ad] at h2
    rw [List.nil_append] at h2
    rw [List.reverse_singleton]
    omega
  | @s i j k _ ih =>
    have := ih (by omega) (by omega)
    rw [take_succ_sg (by omega : i < a.length), take_succ_sg (by omega : j < b.length), List.reverse_append, List.reverse_append]
    have h2 := eC_app c [sg a i].reverse (a.take i).reverse [sg b j].reverse (b.take j).reverse
    have h3 := eC_st (c := c) (sg a i) (sg b j)
    rw [List.reverse_singleton, List.reverse_singleton] at h2 ⊢
    have e : stp c a b i j = if sg a i = sg b j then 0 else c.ch := rfl
    rw [e]
    omega
theorem eC_rev_le (c : Cst) (a b : List Int) : eC' c a.reverse b.reverse ≤ eC' c a b := by
  have := eC_rev1 (eD_way c a b a.length b.length) (Nat.le_refl _) (Nat.le_refl _)
  rwa [List.take_length, List.take_length] at this
theorem eC_rev (c : Cst) (a b : List Int) : eC' c a.reverse b.reverse = eC' c a b := by
  have h1 := eC_rev_le c a b
  have h2 := eC_rev_le c a.reverse b.reverse
  rw [List.reverse_reverse, List.reverse_reverse] at h2
  omega
/-! one sign more -/
theorem eC_more {c : Cst} (h : c.Ps) (a b : List Int) (x : Int) : eC' c (a ++ [x]) b - eC' c a b ≤ max c.dr c.ad ∧ eC' c a b - eC' c (a ++ [x]) b ≤ max c.dr c.ad := by
  have h1 := eC_app c a [x] b []
  rw [List.append_nil, eC_dr] at h1
  have h2 := eC_app c a [] a [x]
  rw [List.append_nil, eC_ad, (eC_zero h a a).mpr rfl] at h2
  have h3 := eC_tri h a (a ++ [x]) b
  omega
theorem eC_lead {c : Cst} (h : c.Ps) (t a b : List Int) : eC' c (t ++ a) (t ++ b) ≤ eC' c a b := by
  have h1 := eC_app c t a t b
  rw [(eC_zero h t t).mpr rfl] at h1
  omega
/-! signs dropped -/
theorem eC_sub {c : Cst} {a b : List Int} (h : b.Sublist a) : eC' c a b ≤ ((a.length : Int) - (b.length : Int)) * c.dr := by
  induction h with
  | slnil => simp [eC_nil]
  | @cons b a x _ ih =>
    have h1 := eC_app c [x] a [] b
    rw [List.nil_append, eC_dr] at h1
    have e : (((x :: a).length : Int) - (b.length : Int)) * c.dr = ((a.length : Int) - (b.length : Int)) * c.dr + c.dr := by
      rw [List.length_cons, Int.natCast_succ]
      have : (a.length : Int) + 1 - (b.length : Int) = ((a.length : Int) - (b.length : Int)) + 1 := by omega
      rw [this, Int.add_mul, Int.one_mul]
    rw [e]
    show eC' c ([x] ++ a) b ≤ _
    omega
  | @cons_cons b a x _ ih =>
    have h1 := eC_app c [x] a [x] b
    have h2 := eC_st (c := c) x x
    rw [if_pos rfl] at h2
    have e : (((x :: a).length : Int) - ((x :: b).length : Int)) = (a.length : Int) - (b.length : Int) := by
      rw [List.length_cons, List.length_cons]; omega
    rw [e]
    show eC' c ([x] ++ a) ([x] ++ b) ≤ _
    omega
/-! where a change costs as much as a drop and an add -/
def dearC (c : Cst) : Cst := ⟨c.dr, c.ad, c.dr + c.ad⟩
def msC (c : Cst) (i j l : Nat) : Int := (i : Int) * c.dr + (j : Int) * c.ad - (l : Int) * (c.dr + c.ad)
theorem msC_d (c : Cst) (i j l : Nat) : msC c (i + 1) j l = msC c i j l + c.dr := by
  unfold msC
  rw [Int.natCast_succ, Int.add_mul, Int.one_mul]
  omega
theorem msC_n (c : Cst) (i j l : Nat) : msC c i (j + 1) l = msC c i j l + c.ad := by
  unfold msC
  rw [Int.natCast_succ, Int.add_mul, Int.one_mul]
  omega
theorem msC_l (c : Cst) (i j l : Nat) : msC c i j (l + 1) = msC c i j l - (c.dr + c.ad) := by
  unfold msC
  rw [Int.natCast_succ, Int.add_mul, Int.one_mul]
  omega
theorem ms_erD {c : Cst} {a b : List Int} {i j : Nat} {l : List Nat} (h : MS a b i j l) : ER (dearC c) a b i j (msC c i j l.length) := by
  induction h with
  | z =>
    have : msC c 0 0 ([] : List Nat).length = 0 := by simp [msC]
    rw [this]; exact .z
  | @d i j l _ ih => rw [msC_d]; exact .d ih
  | @n i j l _ ih => rw [msC_n]; exact .n ih
  | @m i j l _ hs ih =>
    have := ER.s ih
    have e : msC c i j l.length + stp (dearC c) a b i j = msC c (i + 1) (j + 1) (l ++ [i]).length := by
      unfold stp
      rw [if_pos hs, List.length_append, List.length_singleton, msC_l, msC_d, msC_n]
      omega
    rwa [e] at this
theorem er_msD {c : Cst} {a b : List Int} {i j : Nat} {k : Int} (h : ER (dearC c) a b i j k) : ∃ l, MS a b i j l ∧ msC c i j l.length ≤ k := by
  induction h with
  | z => exact ⟨[], .z, by simp [msC]⟩
  | @d i j k _ ih =>
    obtain ⟨l, h1, h2⟩ := ih
    exact ⟨l, .d h1, by rw [msC_d]; show _ ≤ k + c.dr; omega⟩
  | @n i j k _ ih =>
    obtain ⟨l, h1, h2⟩ := ih
    exact ⟨l, .n h1, by rw [msC_n]; show _ ≤ k + c.ad; omega⟩
  | @s i j k _ ih =>
    obtain ⟨l, h1, h2⟩ := ih
    unfold stp
    by_cases e : sg a i = sg b j
    · rw [if_pos e]
      exact ⟨_, .m h1 e, by rw [List.length_append, List.length_singleton, msC_l, msC_d, msC_n]; omega⟩
    · rw [if_neg e]
      exact ⟨l, .n (.d h1), by rw [msC_n, msC_d]; show _ ≤ k + (c.dr + c.ad); omega⟩
/-- with the greatest row of signs that both have -/
theorem eC_dear {c : Cst} (h : c.Ps) {a b : List Int} {L : Nat} (h1 : ∃ l, MS a b a.length b.length l ∧ l.length = L) (h2 : ∀ l, MS a b a.length b.length l → l.length ≤ L) : eC' (dearC c) a b = ((a.length : Int) - (L : Int)) * c.dr + ((b.length : Int) - (L : Int)) * c.ad := by
  have e : ((a.length : Int) - (L : Int)) * c.dr + ((b.length : Int) - (L : Int)) * c.ad = msC c a.length b.length L := by
    unfold msC
    rw [Int.sub_mul, Int.sub_mul, Int.mul_add]
    omega
  rw [e]
  obtain ⟨l, m1, rfl⟩ := h1
  have u := eD_le (ms_erD (c := c) m1)
  obtain ⟨l', m2, v⟩ := er_msD (eD_way (dearC c) a b a.length b.length)
  have w := h2 l' m2
  have hm : msC c a.length b.length l.length ≤ msC c a.length b.length l'.length := by
    unfold msC
    have hp : (0 : Int) ≤ c.dr + c.ad := by have := h.dr; have := h.ad; omega
    have := Int.mul_le_mul_of_nonneg_right (show (l'.length : Int) ≤ (l.length : Int) by omega) hp
    omega
  unfold eC'
  omega
end Fx
end

section
set_option linter.all false
set_option maxRecDepth 10000
/-! Ib: scripts counted and turned. -/
namespace Fx
def cntW (s : String) (ws : List Wd4) : Nat := (wL ws).countP fun z => D.eq z (.str s)
theorem cnt_cons (s : String) (w : Wd4) (ws : List Wd4) : cntW s (w :: ws) = cntW s ws + if w.s = s then 1 else 0 := by
  unfold cntW wL
  rw [List.map_cons, List.countP_cons]
  simp [D.eq]
theorem run_cnt {c : Cst} {a b : List Int} : ∀ (l : List Wd4) (i0 j0 : Nat) (k0 : Int) (i j : Nat) (k : Int), l.foldl (runW c a b) (some (i0, j0, k0)) = some (i, j, k) →
    i = i0 + cntW "keep" l + cntW "change" l + cntW "drop" l ∧ j = j0 + cntW "keep" l + cntW "change" l + cntW "add" l ∧ k = k0 + (cntW "change" l : Int) * c.ch + (cntW "drop" l : Int) * c.dr + (cntW "add" l : Int) * c.ad
  | [], i0, j0, k0, i, j, k, h => by
    simp only [List.foldl_nil, Option.some.injEq, Prod.mk.injEq] at h
    obtain ⟨rfl, rfl, rfl⟩ := h
    simp [cntW, wL]
  | w :: l, i0, j0, k0, i, j, k, h => by
    rw [List.foldl_cons] at h
    rw [cnt_cons, cnt_cons, cnt_cons, cnt_cons]
    cases hw : runW c a b (some (i0, j0, k0)) w with
    | none => rw [hw, fold_none] at h; cases h
    | some st =>
      rw [hw] at h
      obtain ⟨i1, j1, k1⟩ := st
      have ih := run_cnt l i1 j1 k1 i j k h
      cases w with
      | keep =>
        simp only [runW] at hw
        split at hw
        · simp only [Option.some.injEq, Prod.mk.injEq] at hw
          obtain ⟨rfl, rfl, rfl⟩ := hw
          simp only [Wd4.s] at ih ⊢
          simp at ih ⊢
          omega
        · cases hw
      | change =>
        simp only [runW] at hw
        split at hw
        · simp only [Option.some.injEq, Prod.mk.injEq] at hw
          obtain ⟨rfl, rfl, rfl⟩ := hw
          simp only [Wd4.s] at ih ⊢
          simp at ih ⊢
          rw [Int.add_mul, Int.one_mul]
          omega
        · cases hw
      | drop =>
        simp only [runW, Option.some.injEq, Prod.mk.injEq] at hw
        obtain ⟨rfl, rfl, rfl⟩ := hw
        simp only [Wd4.s] at ih ⊢
        simp at ih ⊢
        rw [Int.add_mul, Int.one_mul]
        omega
      | add =>
        simp only [runW, Option.some.injEq, Prod.mk.injEq] at hw
        obtain ⟨rfl, rfl, rfl⟩ := hw
        simp only [Wd4.s] at ih ⊢
        simp at ih ⊢
        rw [Int.add_mul, Int.one_mul]
        omega
theorem script_run {c : Cst} (h : c.Ps) (a b : List Int) : (script c a b).foldl (runW c a b) (some (0, 0, 0)) = some (a.length, b.length, eC' c a b) := by
  unfold script
  exact (scr_run h (a.length + b.length) a.length b.length (Nat.le_refl _) (Nat.le_refl _) (Nat.le_refl _)).1
theorem script_cnt {c : Cst} (h : c.Ps) (a b : List Int) : a.length = cntW "keep" (script c a b) + cntW "change" (script c a b) + cntW "drop" (script c a b) ∧ b.length = cntW "keep" (script c a b) + cntW "change" (script c a b) + cntW "add" (script c a b) ∧
    eC' c a b = (cntW "change" (script c a b) : Int) * c.ch + (cntW "drop" (script c a b) : Int) * c.dr + (cntW "add" (script c a b) : Int) * c.ad := by
  have := run_cnt _ _ _ _ _ _ _ (script_run h a b)
  refine ⟨by have := this.1; omega, by have := this.2.1; omega, by have := this.2.2; omega⟩
def turnW : Wd4 → Wd4
  | .keep => .keep
  | .change => .change
  | .drop => .add
  | .add => .drop
theorem run_turn (c : Cst) (a b : List Int) (i j : Nat) (k : Int) (w : Wd4) : runW c.back b a (some (j, i, k)) (turnW w) = (runW c a b (some (i, j, k)) w).map fun st => (st.2.1, st.1, st.2.2) := by
  cases w with
  | keep =>
    simp only [turnW, runW]
    by_cases h : i < a.length ∧ j < b.length ∧ sg a i = sg b j
    · rw [if_pos h, if_pos ⟨h.2.1, h.1, h.2.2.symm⟩]; rfl
    · rw [if_neg h, if_neg (fun z => h ⟨z.2.1, z.1, z.2.2.symm⟩)]; rfl
  | change =>
    simp only [turnW, runW]
    by_cases h : i < a.length ∧ j < b.length
    · rw [if_pos h, if_pos ⟨h.2, h.1⟩]; rfl
    · rw [if_neg h, if_neg (fun z => h ⟨z.2, z.1⟩)]; rfl
  | drop => rfl
  | add => rfl
theorem fold_turn (c : Cst) (a b : List Int) : ∀ (l : List Wd4) (i j : Nat) (k : Int), (l.map turnW).foldl (runW c.back b a) (some (j, i, k)) = (l.foldl (runW c a b) (some (i, j, k))).map fun st => (st.2.1, st.1, st.2.2)
  | [], i, j, k => rfl
  | w :: l, i, j, k => by
    rw [List.map_cons, List.foldl_cons, List.foldl_cons, run_turn]
    cases runW c a b (some (i, j, k)) w with
    | none => rw [Option.map_none, fold_none, fold_none]; rfl
    | some st => exact fold_turn c a b l _ _ _
theorem back_ps {c : Cst} (h : c.Ps) : c.back.Ps := ⟨h.ad, h.dr, h.ch⟩
theorem val_ws {c : Cst} (hc : c.Ps) (a b : List Int) (ws : List Wd4) (hr : ws.foldl (runW c a b) (some (0, 0, 0)) = some (a.length, b.length, eC' c a b)) : valE c a b (.tup [.int (eC' c a b), .tup (wL ws), tt (eT c a b)]) = true := by
  have h0 : ((wL (script c a b)).all isS && (D.eq (costD c a b ((wL (script c a b)).map D.sv)) (.int (eC' c a b)) && valT c a b (eC' c a b) (tt (eT c a b)))) = true := val_pap hc a b
  rw [Bool.and_eq_true, Bool.and_eq_true] at h0
  show ((wL ws).all isS && (D.eq (costD c a b ((wL ws).map D.sv)) (.int (eC' c a b)) && valT c a b (eC' c a b) (tt (eT c a b)))) = true
  have hcost : costD c a b (ws.map Wd4.s) = .int (eC' c a b) := by
    unfold costD
    rw [foldM_run, hr]
    simp
  rw [wL_isS, wL_sv, hcost, eq_refl, h0.2.2]
  rfl
theorem val_turn {c : Cst} (hc : c.Ps) (a b : List Int) : valE c.back b a (.tup [.int (eC' c a b), .tup (wL ((script c a b).map turnW)), tt (eT c.back b a)]) = true := by
  have e := eC_back c a b
  rw [← e]
  refine val_ws (back_ps hc) b a _ ?_
  rw [fold_turn, script_run hc, e]
  rfl
/-! the program's least cost -/
theorem cs_0' (c : Cst) : oIx (.v (csD c)) (.v (.int 0)) = some (.v (.int c.dr)) := rfl
theorem cs_1' (c : Cst) : oIx (.v (csD c)) (.v (.int 1)) = some (.v (.int c.ad)) := rfl
theorem cs_2' (c : Cst) : oIx (.v (csD c)) (.v (.int 2)) = some (.v (.int c.ch)) := rfl
theorem least_ok {c : Cst} {a b : List Int} (ha : a.length ≤ 8) (hb : b.length ≤ 8) (hc : c.Ps) (hs : c.ad ≤ 1000) : G.F__law_least [.v (ti a), .v (ti b), .v (csD c)] = .ok (.v (.int (eC' c a b))) [] := by
  have h1 := edit_table_ok ha hb hc hs
  have q1 := neg1_tt c a b
  have q2 := neg1_row c a b
  unfold G.F__law_least G.c__law_least G._law_least_0
  generalize ti (rowE (eD c a b a.length) (b.length + 1)) = R at *
  generalize tt (eT c a b) = T at *
  generalize ti a = A at *
  generalize ti b = B at *
  generalize csD c = Z at *
  simp [h1, q1, q2, neg_1]
end Fx
end

section
set_option linter.all false
set_option maxRecDepth 10000
/-! R47: the plain law of k47. -/
namespace Fx
theorem wdraw (sc : D) (s : Rd) (x2 x19 : Option Vl) : ∃ (w : List Int) (s' : Rd), w.length ≤ 4 ∧ eComp [20] (iR1 (eCall G.F__law_take [.lent 1, .va (eC (.int 5))])) (gN 20) tYes (eCall G.F__law_take [.lent 1, .va (eC (.int 3))]) [some (.v sc), some s.v, x2, none, none, none, none, none, none, none, none, none, none, none, none, none, none, none, none, x19, none, none] =
    .ok (.o (w.map .int)) [some (.v sc), some (Rd.v s'), x2, none, none, none, none, none, none, none, none, none, none, none, none, none, none, none, none, x19, none, none] := by
  obtain ⟨r, s1, r0, r1, h1⟩ := take_spec s 5 (by omega) (by omega)
  obtain ⟨n, rfl⟩ : ∃ n : Nat, r = (n : Int) := ⟨r.toNat, by omega⟩
  let ev (s : Rd) : En := [some (.v sc), some s.v, x2, none, none, none, none, none, none, none, none, none, none, none, none, none, none, none, none, x19, none, none]
  obtain ⟨acc, en2, hal, hc, s2, w, hw, rfl⟩ := compN (vs := [20]) (it := iR1 (eCall G.F__law_take [.lent 1, .va (eC (.int 5))])) (g := gN 20) (x := eCall G.F__law_take [.lent 1, .va (eC (.int 3))]) (e := ev s) (e1 := ev s1) (List.range n) nD (fun acc e => ∃ (s' : Rd) (w : List Int), acc = w.map .int ∧ e = ev s')
    (r1_nat (n := n) (by
      show eCall _ _ [some (.v sc), some s.v, x2, none, none, none, none, none, none, none, none, none, none, none, none, none, none, none, none, x19, none, none] = .ok _ [some (.v sc), some s1.v, x2, none, none, none, none, none, none, none, none, none, none, none, none, none, none, none, none, x19, none, none]
      simp [h1]) (by omega)) (by simp [lim]; omega) ⟨s1, [], rfl, rfl⟩ (by
    rintro k hk acc e ⟨s2, w, rfl, rfl⟩
    obtain ⟨r, s3, r0, r1, h2⟩ := take_spec s2 3 (by omega) (by omega)
    refine ⟨[some (.v sc), some s2.v, x2, none, none, none, none, none, none, none, none, none, none, none, none, none, none, none, none, x19, some (.v (nD k)), none], .v (.int r), .int r, [some (.v sc), some s3.v, x2, none, none, none, none, none, none, none, none, none, none, none, none, none, none, none, none, x19, some (.v (nD k)), none], rfl, ?_, rfl, s3, w ++ [r], by simp, rfl⟩
    simp [h2])
  refine ⟨w, s2, ?_, ?_⟩
  · have : acc.length = w.length := by rw [hw, List.length_map]
    rw [List.length_range] at hal
    omega
  · rw [← hw]
    exact hc
theorem n1 (sc : D) (s : Rd) : ∃ (W : List (List Int)) (s' : Rd), W.length = 4 ∧ (∀ w ∈ W, w.length ≤ 4) ∧ G.law_1 [some (.v sc), some s.v, none, none, none, none, none, none, none, none, none, none, none, none, none, none, none, none, none, none, none, none] =
    .nxt [some (.v sc), some (Rd.v s'), some (.o (W.map ti)), none, none, none, none, none, none, none, none, none, none, none, none, none, none, none, none, none, none, none] := by
  let ev (s : Rd) : En := [some (.v sc), some s.v, none, none, none, none, none, none, none, none, none, none, none, none, none, none, none, none, none, none, none, none]
  obtain ⟨acc, en2, hal, hc, s2, W, hW, hlen, rfl⟩ := compN (vs := [19]) (it := iR1 (eC (.int 4))) (g := gN 19) (x := G.law_1x1) (e := ev s) (e1 := ev s) (List.range 4) nD (fun acc e => ∃ (s' : Rd) (W : List (List Int)), acc = W.map ti ∧ (∀ w ∈ W, w.length ≤ 4) ∧ e = ev s') (r1_e (n := 4) (by simp) (by omega)) (by simp [lim]) ⟨s, [], rfl, by simp, rfl⟩ (by
    rintro k hk acc e ⟨s1, W, rfl, hlen, rfl⟩
    obtain ⟨w, s2, hw, h⟩ := wdraw sc s1 none (some (.v (nD k)))
    refine ⟨[some (.v sc), some s1.v, none, none, none, none, none, none, none, none, none, none, none, none, none, none, none, none, none, some (.v (nD k)), none, none], .v (ti w), ti w, [some (.v sc), some s2.v, none, none, none, none, none, none, none, none, none, none, none, none, none, none, none, none, none, some (.v (nD k)), none, none], rfl, ?_, rfl, s2, W ++ [w], by simp, ?_, rfl⟩
    · have ht : oTuple (.o (w.map .int)) = some (.v (ti w)) := rfl
      unfold G.law_1x1
      generalize eComp [20] (iR1 (eCall G.F__law_take [.lent 1, .va (eC (.int 5))])) (gN 20) tYes (eCall G.F__law_take [.lent 1, .va (eC (.int 3))]) = Y at h ⊢
      generalize w.map D.int = R at *
      generalize ti w = R2 at *
      simp [h, ht]
    · intro x hx
      rcases List.mem_append.mp hx with z | z
      · exact hlen x z
      · simp at z; subst z; exact hw)
  have hun : unhide (ev s) (ev s2) [19] = ev s2 := rfl
  rw [hun, hW] at hc
  refine ⟨W, s2, by rw [hW, List.length_map, List.length_range] at hal; exact hal, hlen, ?_⟩
  unfold G.law_1
  change _ = Rs.ok _ [some (.v sc), some (Rd.v s2), none, none, none, none, none, none, none, none, none, none, none, none, none, none, none, none, none, none, none, none] at hc
  generalize eComp [19] (iR1 (eC (.int 4))) (gN 19) tYes G.law_1x1 = Y at hc ⊢
  change Y [some (.v sc), some (Rd.v s), none, none, none, none, none, none, none, none, none, none, none, none, none, none, none, none, none, none, none, none] = _ at hc
  generalize W.map ti = R at *
  simp [hc]
structure Set47 (a b t f : List Int) (c : Cst) : Prop where
  la : a.length ≤ 4
  lb : b.length ≤ 4
  lt : t.length ≤ 4
  lf : f.length ≤ 4
  ps : c.Ps
  d5 : c.dr ≤ 5
  a5 : c.ad ≤ 5
  c5 : c.ch ≤ 5
noncomputable def V47 (sc : D) (s : Rd) (a b t f : List Int) (c : Cst) (x9 x10 x11 x12 x13 x14 x15 x16 x17 x18 : Option Vl) : En :=
  [some (.v sc), some s.v, some (.v (.lst [ti a, ti b, ti t, ti f])), some (.v (ti a)), some (.v (ti b)), some (.v (ti t)), some (.v (ti f)), some (.v (csD c)), some (.v (csD c.back)), x9, x10, x11, x12, x13, x14, x15, x16, x17, x18, none, none, none]
theorem n234 (sc : D) (s : Rd) (a b t f : List Int) (hl : a.length ≤ 4 ∧ b.length ≤ 4 ∧ t.length ≤ 4 ∧ f.length ≤ 4) : ∃ (c : Cst) (s' : Rd), Set47 a b t f c ∧ ∃ e2 e3, G.law_2 [some (.v sc), some s.v, some (.o [ti a, ti b, ti t, ti f]), none, none, none, none, none, none, none, none, none, none, none, none, none, none, none, none, none, none, none] = .nxt e2 ∧ G.law_3 e2 = .nxt e3 ∧ G.law_4 e3 = .nxt (V47 sc s' a b t f c none none none none none none none none none none) := by
  obtain ⟨r1, s1, r10, r11, h1⟩ := take_spec s 5 (by omega) (by omega)
  obtain ⟨r2, s2, r20, r21, h2⟩ := take_spec s1 5 (by omega) (by omega)
  obtain ⟨r3, s3, r30, r31, h3⟩ := take_spec s2 5 (by omega) (by omega)
  refine ⟨⟨1 + r1, 1 + r2, 1 + r3⟩, s3, ⟨hl.1, hl.2.1, hl.2.2.1, hl.2.2.2, ⟨by show 0 < 1 + r1; omega, by show 0 < 1 + r2; omega, by show 0 < 1 + r3; omega⟩, by show 1 + r1 ≤ 5; omega, by show 1 + r2 ≤ 5; omega, by show 1 + r3 ≤ 5; omega⟩,
    [some (.v sc), some s.v, some (.v (.lst [ti a, ti b, ti t, ti f])), some (.v (ti a)), some (.v (ti b)), some (.v (ti t)), some (.v (ti f)), none, none, none, none, none, none, none, none, none, none, none, none, none, none, none],
    [some (.v sc), some s3.v, some (.v (.lst [ti a, ti b, ti t, ti f])), some (.v (ti a)), some (.v (ti b)), some (.v (ti t)), some (.v (ti f)), some (.v (csD ⟨1 + r1, 1 + r2, 1 + r3⟩)), none, none, none, none, none, none, none, none, none, none, none, none, none, none], ?_, ?_, ?_⟩
  · unfold G.law_2
    generalize ti a = A at *
    generalize ti b = B at *
    generalize ti t = T at *
    generalize ti f = F' at *
    simp
  · unfold G.law_3 csD
    generalize ti a = A at *
    generalize ti b = B at *
    generalize ti t = T at *
    generalize ti f = F' at *
    simp [h1, h2, h3]
  · have c0 := cs_0' ⟨1 + r1, 1 + r2, 1 + r3⟩
    have c1 := cs_1' ⟨1 + r1, 1 + r2, 1 + r3⟩
    have c2 := cs_2' ⟨1 + r1, 1 + r2, 1 + r3⟩
    have e : csD (Cst.back ⟨1 + r1, 1 + r2, 1 + r3⟩) = .tup [.int (1 + r2), .int (1 + r1), .int (1 + r3)] := rfl
    unfold G.law_4 V47
    rw [e]
    generalize ti a = A at *
    generalize ti b = B at *
    generalize ti t = T at *
    generalize ti f = F' at *
    generalize csD ⟨1 + r1, 1 + r2, 1 + r3⟩ = Z at *
    simp [c0, c1, c2]
section
variable {sc : D} {s : Rd} {a b t f : List Int} {c : Cst} (h : Set47 a b t f c)
include h
theorem lst47 {u w : List Int} (hu : u.length ≤ 8) (hw : w.length ≤ 8) : G.F__law_least [.v (ti u), .v (ti w), .v (csD c)] = .ok (.v (.int (eC' c u w))) [] := least_ok hu hw h.ps (by have := h.a5; omega)
theorem n5 : G.law_5 (V47 sc s a b t f c none none none none none none none none none none) = .nxt (V47 sc s a b t f c (some (.v (.int (eC' c a b)))) none none none none none none none none none) := by
  have h1 := lst47 h (u := a) (w := b) (by have := h.la; omega) (by have := h.lb; omega)
  unfold G.law_5 V47
  generalize ti a = A at *
  generalize ti b = B at *
  generalize csD c = Z at *
  simp [h1]
theorem n6 : G.law_6 (V47 sc s a b t f c (some (.v (.int (eC' c a b)))) none none none none none none none none none) = .nxt (V47 sc s a b t f c (some (.v (.int (eC' c a b)))) none none none none none none none none none) := by
  have la := h.la
  have lb := h.lb
  have h1 := lst47 h (u := a.reverse) (w := b.reverse) (by rw [List.length_reverse]; omega) (by rw [List.length_reverse]; omega)
  rw [eC_rev] at h1
  have h2 := least_ok (c := c.back) (a := b) (b := a) (by omega) (by omega) (back_ps h.ps) (by have := h.d5; show c.dr ≤ 1000; omega)
  rw [eC_back] at h2
  have r1 : oRv (.v (ti a)) = some (.v (ti a.reverse)) := by unfold ti oRv; rw [List.map_reverse]
  have r2 : oRv (.v (ti b)) = some (.v (ti b.reverse)) := by unfold ti oRv; rw [List.map_reverse]
  have hz := eC_zero h.ps a b
  have q1 : oEq (.v (.int (eC' c a b))) (.v (.int 0)) = some (.v (.bl (decide (a = b)))) := by
    rw [oEq_sm _ _ (by simp [D.dep])]
    congr 3
    simp only [D.eq]
    rw [Bool.eq_iff_iff, decide_eq_true_eq, decide_eq_true_eq]
    exact hz
  have q2 : oEq (.v (ti a)) (.v (ti b)) = some (.v (.bl (decide (a = b)))) := by
    rw [oEq_sm _ _ (by rw [dep_ti]; omega), eq_ti]
  have hne := oNe_self (.int (eC' c a b)) (by simp [D.dep])
  have hne2 := oNe_self (.bl (decide (a = b))) (by simp [D.dep])
  unfold G.law_6 G.law_6t1 V47
  generalize decide (a = b) = q at *
  generalize ti a.reverse = A2 at *
  generalize ti b.reverse = B2 at *
  generalize eC' c a b = v at *
  generalize ti a = A at *
  generalize ti b = B at *
  generalize csD c = Z at *
  generalize csD c.back = Z2 at *
  simp [h1, h2, r1, r2, q1, q2, hne, hne2]
theorem ti_add {u w : List Int} (hu : u.length ≤ 8) (hw : w.length ≤ 8) : oAdd (.v (ti u)) (.v (ti w)) = some (.v (ti (u ++ w))) := by
  unfold ti
  rw [oAdd_tup _ _ (by rw [List.length_map, List.length_map]; simp [lim]; omega), List.map_append]
theorem n7 : G.law_7 (V47 sc s a b t f c (some (.v (.int (eC' c a b)))) none none none none none none none none none) = .nxt (V47 sc s a b t f c (some (.v (.int (eC' c a b)))) none none none none none none none none none) := by
  have la := h.la
  have lb := h.lb
  have lt := h.lt
  have lf := h.lf
  have h1 := lst47 h (u := a ++ t) (w := b ++ f) (by rw [List.length_append]; omega) (by rw [List.length_append]; omega)
  have h2 := lst47 h (u := t) (w := f) (by omega) (by omega)
  have r1 := ti_add h (u := a) (w := t) (by omega) (by omega)
  have r2 := ti_add h (u := b) (w := f) (by omega) (by omega)
  have hle := eC_app c a t b f
  have hn : ¬ (eC' c a b + eC' c t f < eC' c (a ++ t) (b ++ f)) := by omega
  unfold G.law_7 G.law_7t1 V47
  generalize ti (a ++ t) = A2 at *
  generalize ti (b ++ f) = B2 at *
  generalize ti a = A at *
  generalize ti b = B at *
  generalize ti t = T at *
  generalize ti f = F' at *
  generalize csD c = Z at *
  simp [h1, h2, r1, r2, hn]
theorem n8 : G.law_8 (V47 sc s a b t f c (some (.v (.int (eC' c a b)))) none none none none none none none none none) = .nxt (V47 sc s a b t f c (some (.v (.int (eC' c a b)))) none none none none none none none none none) := by
  have la := h.la
  have lb := h.lb
  have lt := h.lt
  have h1 := lst47 h (u := a) (w := b) (by omega) (by omega)
  have h2 := lst47 h (u := a) (w := t) (by omega) (by omega)
  have h3 := lst47 h (u := t) (w := b) (by omega) (by omega)
  have hle := eC_tri h.ps a t b
  have hn : ¬ (eC' c a t + eC' c t b < eC' c a b) := by omega
  unfold G.law_8 G.law_8t1 V47
  generalize ti a = A at *
  generalize ti b = B at *
  generalize ti t = T at *
  generalize csD c = Z at *
  simp [h1, h2, h3, hn]
theorem n9 : G.law_9 (V47 sc s a b t f c (some (.v (.int (eC' c a b)))) none none none none none none none none none) = .nxt (V47 sc s a b t f c (some (.v (.int (eC' c a b)))) none none none none none none none none none) := by
  have la := h.la
  have lb := h.lb
  have lt := h.lt
  have h1 := lst47 h (u := a ++ [1]) (w := b) (by rw [List.length_append]; simp; omega) (by omega)
  have h2 := lst47 h (u := t ++ a) (w := t ++ b) (by rw [List.length_append]; omega) (by rw [List.length_append]; omega)
  have r1 : oAdd (.v (ti a)) (.v (.tup [.int 1])) = some (.v (ti (a ++ [1]))) := ti_add h (u := a) (w := [1]) (by omega) (by simp)
  have r2 := ti_add h (u := t) (w := a) (by omega) (by omega)
  have r3 := ti_add h (u := t) (w := b) (by omega) (by omega)
  have c0 := cs_0' c
  have c1 := cs_1' c
  obtain ⟨m1, m2⟩ := eC_more h.ps a b 1
  have m3 := eC_lead h.ps t a b
  have ha : ∀ z : Int, oAbs (.v (.int z)) = some (.v (.int (if z < 0 then -z else z))) := fun z => rfl
  have hn : ¬ ((if c.dr < c.ad then c.ad else c.dr) < (if eC' c (a ++ [1]) b - eC' c a b < 0 then -(eC' c (a ++ [1]) b - eC' c a b) else eC' c (a ++ [1]) b - eC' c a b)) := by
    split <;> split <;> omega
  have hn2 : ¬ (eC' c a b < eC' c (t ++ a) (t ++ b)) := by omega
  unfold G.law_9 G.law_9t1 V47
  generalize ti (a ++ [1]) = A2 at *
  generalize ti (t ++ a) = A3 at *
  generalize ti (t ++ b) = B3 at *
  generalize ti a = A at *
  generalize ti b = B at *
  generalize ti t = T at *
  generalize csD c = Z at *
  have ho : oMax2 (.v (.int c.dr)) (.v (.int c.ad)) = some (.v (.int (if c.dr < c.ad then c.ad else c.dr))) := rfl
  generalize (if c.dr < c.ad then c.ad else c.dr) = mx at *
  generalize eC' c (t ++ a) (t ++ b) = v2 at *
  have hab := ha (eC' c (a ++ [1]) b - eC' c a b)
  generalize (if eC' c (a ++ [1]) b - eC' c a b < 0 then -(eC' c (a ++ [1]) b - eC' c a b) else eC' c (a ++ [1]) b - eC' c a b) = ab at *
  generalize eC' c (a ++ [1]) b = v1 at *
  generalize eC' c a b = v at *
  clear ha
  simp [h1, h2, r1, r2, r3, c0, c1, hab, hn, hn2, ho]
end
end Fx
end

section
set_option linter.all false
set_option maxRecDepth 10000
/-! R47b: the plain law of k47, second half. -/
namespace Fx
def tdL : List (D × D) := [("keep", "keep"), ("change", "change"), ("drop", "add"), ("add", "drop")].foldl (fun acc p => dPut acc (.str p.1) (.str p.2)) []
theorem tdL_get (w : Wd4) : dGet tdL (.str w.s) = some (.str (turnW w).s) := by
  have e : tdL = [(.str "keep", .str "keep"), (.str "change", .str "change"), (.str "drop", .str "add"), (.str "add", .str "drop")] := by simp [tdL, dPut, sameK]
  rw [e]
  cases w <;> simp [dGet, sameK, Wd4.s, turnW]
def kdL (c : Cst) (a b : List Int) : List D := ["keep", "change", "drop", "add"].map fun w => .int (cntW w (script c a b) : Int)
section
variable {sc : D} {s : Rd} {a b t f : List Int} {c : Cst} (h : Set47 a b t f c)
include h
theorem n10 (x9 : Option Vl) : G.law_10 (V47 sc s a b t f c x9 none none none none none none none none none) = .nxt (V47 sc s a b t f c x9 (some (.v (.int (eC' c a b)))) (some (.v (.tup (wL (script c a b))))) (some (.v (tt (eT c a b)))) none none none none none none) := by
  have h1 := edit_paper_ok (c := c) (a := a) (b := b) (by have := h.la; omega) (by have := h.lb; omega) h.ps (by have := h.a5; omega)
  unfold G.law_10 V47
  unfold papE at h1
  generalize tt (eT c a b) = T at *
  generalize wL (script c a b) = W at *
  generalize ti a = A at *
  generalize ti b = B at *
  generalize csD c = Z at *
  generalize csD c.back = Z2 at *
  simp [h1]
theorem n11 (x9 x10 x12 : Option Vl) : G.law_11 (V47 sc s a b t f c x9 x10 (some (.v (.tup (wL (script c a b))))) x12 none none none none none none) = .nxt (V47 sc s a b t f c x9 x10 (some (.v (.tup (wL (script c a b))))) x12 (some (.o (kdL c a b))) none none none none none) := by
  have hc := comp0 (vs := [21]) (it := iL (eLst (eCons (eC (.str "keep")) (eCons (eC (.str "change")) (eCons (eC (.str "drop")) (eCons (eC (.str "add")) eNil)))))) (g := gN 21) (x := eMetT fCt (eV 11) (eV 21)) (e := V47 sc s a b t f c x9 x10 (some (.v (.tup (wL (script c a b))))) x12 none none none none none none) (e1 := V47 sc s a b t f c x9 x10 (some (.v (.tup (wL (script c a b))))) x12 none none none none none none) ["keep", "change", "drop", "add"] D.str (fun w => .int (cntW w (script c a b) : Int)) (V47 sc s a b t f c x9 x10 (some (.v (.tup (wL (script c a b))))) x12 none none none none none none) (fun w => [some (.v sc), some s.v, some (.v (.lst [ti a, ti b, ti t, ti f])), some (.v (ti a)), some (.v (ti b)), some (.v (ti t)), some (.v (ti f)), some (.v (csD c)), some (.v (csD c.back)), x9, x10, some (.v (.tup (wL (script c a b)))), x12, none, none, none, none, none, none, none, none, some (.v (.str w))]) (by
      unfold V47
      generalize wL (script c a b) = W at *
      generalize csD c.back = Z2 at *
      simp) (by simp [lim]) rfl rfl (fun w hw => ⟨rfl, ⟨.v (.int (cntW w (script c a b) : Int)), by
      have e : (wL (script c a b)).countP (fun z => D.eq z (.str w)) = cntW w (script c a b) := rfl
      generalize cntW w (script c a b) = q at *
      generalize wL (script c a b) = W at *
      generalize csD c.back = Z2 at *
      simp [eMetT, kMetT, kMet, fCt, D.dep, e], rfl⟩, rfl⟩)
  unfold G.law_11
  generalize eComp [21] (iL (eLst (eCons (eC (.str "keep")) (eCons (eC (.str "change")) (eCons (eC (.str "drop")) (eCons (eC (.str "add")) eNil)))))) (gN 21) tYes (eMetT fCt (eV 11) (eV 21)) = Y at hc ⊢
  have e : ["keep", "change", "drop", "add"].map (fun w => D.int (cntW w (script c a b) : Int)) = kdL c a b := rfl
  rw [e] at hc
  unfold V47 at hc ⊢
  generalize kdL c a b = K at *
  generalize wL (script c a b) = W at *
  generalize csD c.back = Z2 at *
  simp [hc]
theorem n12 (x9 x11 x12 : Option Vl) : G.law_12 (V47 sc s a b t f c x9 (some (.v (.int (eC' c a b)))) x11 x12 (some (.o (kdL c a b))) none none none none none) = .nxt (V47 sc s a b t f c x9 (some (.v (.int (eC' c a b)))) x11 x12 (some (.o (kdL c a b))) none none none none none) := by
  have k0 : oIx (.o (kdL c a b)) (.v (.int 0)) = some (.v (.int (cntW "keep" (script c a b) : Int))) := rfl
  have k1 : oIx (.o (kdL c a b)) (.v (.int 1)) = some (.v (.int (cntW "change" (script c a b) : Int))) := rfl
  have k2 : oIx (.o (kdL c a b)) (.v (.int 2)) = some (.v (.int (cntW "drop" (script c a b) : Int))) := rfl
  have k3 : oIx (.o (kdL c a b)) (.v (.int 3)) = some (.v (.int (cntW "add" (script c a b) : Int))) := rfl
  obtain ⟨e1', e2', e3'⟩ := script_cnt h.ps a b
  have la := ti_len' a
  have lb := ti_len' b
  have n1 := h.la
  have n2 := h.lb
  have c0 := cs_0' c
  have c1 := cs_1' c
  have c2 := cs_2' c
  have m1' : mulOk (cntW "change" (script c a b) : Int) c.ch = true := mulOk_nat (by omega)
  have m2' : mulOk (cntW "drop" (script c a b) : Int) c.dr = true := mulOk_nat (by omega)
  have m3' : mulOk (cntW "add" (script c a b) : Int) c.ad = true := mulOk_nat (by omega)
  have m1 : oMul (.v (.int (cntW "change" (script c a b) : Int))) (.v (.int c.ch)) = some (.v (.int ((cntW "change" (script c a b) : Int) * c.ch))) := by simp [oMul, m1']
  have m2 : oMul (.v (.int (cntW "drop" (script c a b) : Int))) (.v (.int c.dr)) = some (.v (.int ((cntW "drop" (script c a b) : Int) * c.dr))) := by simp [oMul, m2']
  have m3 : oMul (.v (.int (cntW "add" (script c a b) : Int))) (.v (.int c.ad)) = some (.v (.int ((cntW "add" (script c a b) : Int) * c.ad))) := by simp [oMul, m3']
  have f1 : (cntW "keep" (script c a b) : Int) + (cntW "change" (script c a b) : Int) + (cntW "drop" (script c a b) : Int) = (a.length : Int) := by omega
  have f2 : (cntW "keep" (script c a b) : Int) + (cntW "change" (script c a b) : Int) + (cntW "add" (script c a b) : Int) = (b.length : Int) := by omega
  have g1 := oNe_self (.int (a.length : Int)) (by simp [D.dep])
  have g2 := oNe_self (.int (b.length : Int)) (by simp [D.dep])
  have g3 := oNe_self (.int (eC' c a b)) (by simp [D.dep])
  unfold G.law_12 G.law_12t1 V47
  rw [e3'] at g3 ⊢
  generalize kdL c a b = K at *
  generalize (cntW "change" (script c a b) : Int) * c.ch = p1 at *
  generalize (cntW "drop" (script c a b) : Int) * c.dr = p2 at *
  generalize (cntW "add" (script c a b) : Int) * c.ad = p3 at *
  generalize (cntW "keep" (script c a b) : Int) = q0 at *
  generalize (cntW "change" (script c a b) : Int) = q1 at *
  generalize (cntW "drop" (script c a b) : Int) = q2 at *
  generalize (cntW "add" (script c a b) : Int) = q3 at *
  generalize (a.length : Int) = na at *
  generalize (b.length : Int) = nb at *
  generalize ti a = A at *
  generalize ti b = B at *
  generalize csD c = Z at *
  generalize csD c.back = Z2 at *
  simp [k0, k1, k2, k3, la, lb, c0, c1, c2, m1, m2, m3, f1, f2, g1, g2, g3, -len_v]
theorem n13 (x9 x10 x11 x12 x13 : Option Vl) : G.law_13 (V47 sc s a b t f c x9 x10 x11 x12 x13 none none none none none) = .nxt (V47 sc s a b t f c x9 x10 x11 x12 x13 (some (.dc tdL)) none none none none) := rfl
theorem n14 (x9 x10 x11 x12 x13 x14 : Option Vl) : G.law_14 (V47 sc s a b t f c x9 x10 x11 x12 x13 x14 none none none none) = .nxt (V47 sc s a b t f c x9 x10 x11 x12 x13 x14 (some (.v (tt (eT c.back b a)))) none none none) := by
  have h1 := edit_table_ok (c := c.back) (a := b) (b := a) (by have := h.lb; omega) (by have := h.la; omega) (back_ps h.ps) (by have := h.d5; show c.dr ≤ 1000; omega)
  unfold G.law_14 V47
  generalize tt (eT c.back b a) = T at *
  generalize ti a = A at *
  generalize ti b = B at *
  generalize csD c.back = Z2 at *
  generalize csD c = Z at *
  simp [h1]
theorem n15 (x9 x12 x13 : Option Vl) : G.law_15 (V47 sc s a b t f c x9 (some (.v (.int (eC' c a b)))) (some (.v (.tup (wL (script c a b))))) x12 x13 (some (.dc tdL)) (some (.v (tt (eT c.back b a)))) none none none) = .nxt (V47 sc s a b t f c x9 (some (.v (.int (eC' c a b)))) (some (.v (.tup (wL (script c a b))))) x12 x13 (some (.dc tdL)) (some (.v (tt (eT c.back b a)))) none none none) := by
  have n1 := h.la
  have n2 := h.lb
  have hsl := script_len h.ps a b
  have hc := comp0 (vs := [21]) (it := iL (eV 11)) (g := gN 21) (x := eDget 14 (eV 21)) (e := V47 sc s a b t f c x9 (some (.v (.int (eC' c a b)))) (some (.v (.tup (wL (script c a b))))) x12 x13 (some (.dc tdL)) (some (.v (tt (eT c.back b a)))) none none none) (e1 := V47 sc s a b t f c x9 (some (.v (.int (eC' c a b)))) (some (.v (.tup (wL (script c a b))))) x12 x13 (some (.dc tdL)) (some (.v (tt (eT c.back b a)))) none none none) (script c a b) (fun w => .str w.s) (fun w => .str (turnW w).s) (V47 sc s a b t f c x9 (some (.v (.int (eC' c a b)))) (some (.v (.tup (wL (script c a b))))) x12 x13 (some (.dc tdL)) (some (.v (tt (eT c.back b a)))) none none none) (fun w => [some (.v sc), some s.v, some (.v (.lst [ti a, ti b, ti t, ti f])), some (.v (ti a)), some (.v (ti b)), some (.v (ti t)), some (.v (ti f)), some (.v (csD c)), some (.v (csD c.back)), x9, some (.v (.int (eC' c a b))), some (.v (.tup (wL (script c a b)))), x12, x13, some (.dc tdL), some (.v (tt (eT c.back b a))), none, none, none, none, none, some (.v (.str w.s))]) (by
      have e : (script c a b).map (fun w => D.str w.s) = wL (script c a b) := rfl
      rw [e]
      unfold V47
      generalize wL (script c a b) = W at *
      generalize tt (eT c.back b a) = T at *
      generalize csD c.back = Z2 at *
      simp) (by unfold lim; omega) rfl rfl (fun w hw => ⟨rfl, ⟨.v (.str (turnW w).s), by
      have e := tdL_get w
      have hk : isK (.str w.s) = true := rfl
      generalize tdL = L at *
      generalize wL (script c a b) = W at *
      generalize tt (eT c.back b a) = T at *
      generalize csD c.back = Z2 at *
      simp [eDget, hk, e], rfl⟩, rfl⟩)
  have e : (script c a b).map (fun w => D.str (turnW w).s) = wL ((script c a b).map turnW) := by unfold wL; rw [List.map_map]; rfl
  rw [e] at hc
  have bT : Bd 38 20 (tt (eT c.back b a)) := by
    have hr := eT_rc c.back b a
    exact bd_tt _ (by rw [hr.len]; omega) fun r hx => by rw [hr.row r hx]; omega
  have hb : Bd 39 20 (.tup [.int (eC' c a b), .tup (wL ((script c a b).map turnW)), tt (eT c.back b a)]) := bd_3 (by omega) (bd_int _) (bd_wL _ (by rw [List.length_map]; omega)) bT
  have h1 := takes_edit_ok (c := c.back) (a := b) (b := a) (by omega) (by omega) (back_ps h.ps) _ hb (by omega)
  rw [val_turn h.ps] at h1
  have ht : oTuple (.o (wL ((script c a b).map turnW))) = some (.v (.tup (wL ((script c a b).map turnW)))) := rfl
  unfold G.law_15 G.law_15t1
  generalize eComp [21] (iL (eV 11)) (gN 21) tYes (eDget 14 (eV 21)) = Y at hc ⊢
  unfold V47 at hc ⊢
  generalize wL ((script c a b).map turnW) = W2 at *
  generalize wL (script c a b) = W at *
  generalize tt (eT c.back b a) = T at *
  generalize csD c.back = Z2 at *
  generalize csD c = Z at *
  generalize ti a = A at *
  generalize ti b = B at *
  simp [hc, ht, h1, oIsNot]
theorem n16 (x9 x10 x11 x12 x13 x14 x15 : Option Vl) : G.law_16 (V47 sc s a b t f c x9 x10 x11 x12 x13 x14 x15 none none none) = .nxt (V47 sc s a b t f c x9 x10 x11 x12 x13 x14 x15 (some (.v (csD (dearC c)))) none none) := by
  have c0 := cs_0' c
  have c1 := cs_1' c
  have e : csD (dearC c) = .tup [.int c.dr, .int c.ad, .int (c.dr + c.ad)] := rfl
  rw [e]
  unfold G.law_16 V47
  generalize csD c.back = Z2 at *
  generalize csD c = Z at *
  simp [c0, c1]
theorem dear_ps : (dearC c).Ps := ⟨h.ps.dr, h.ps.ad, by have := h.ps.dr; have := h.ps.ad; show 0 < c.dr + c.ad; omega⟩
theorem n17 (x9 x10 x11 x12 x13 x14 x15 x16 : Option Vl) (L : Nat) (hL : ((a.length : Int) + (b.length : Int) - eC' c112 a b) / 2 = (L : Int)) : G.law_17 (V47 sc s a b t f c x9 x10 x11 x12 x13 x14 x15 x16 none none) = .nxt (V47 sc s a b t f c x9 x10 x11 x12 x13 x14 x15 x16 (some (.v (.int (L : Int)))) none) := by
  have h1 := common_ok (a := a) (b := b) (by have := h.la; omega) (by have := h.lb; omega)
  rw [hL] at h1
  unfold G.law_17 V47
  generalize ti a = A at *
  generalize ti b = B at *
  generalize csD c.back = Z2 at *
  generalize csD c = Z at *
  simp [h1]
theorem n18 (x9 x10 x11 x12 x13 x14 x15 : Option Vl) (L : Nat) (h1 : ∃ l, MS a b a.length b.length l ∧ l.length = L) (h2 : ∀ l, MS a b a.length b.length l → l.length ≤ L) : G.law_18 (V47 sc s a b t f c x9 x10 x11 x12 x13 x14 x15 (some (.v (csD (dearC c)))) (some (.v (.int (L : Int)))) none) = .nxt (V47 sc s a b t f c x9 x10 x11 x12 x13 x14 x15 (some (.v (csD (dearC c)))) (some (.v (.int (L : Int)))) none) := by
  have n1 := h.la
  have n2 := h.lb
  have d := eC_dear h.ps h1 h2
  have hl := least_ok (c := dearC c) (a := a) (b := b) (by omega) (by omega) (dear_ps h) (by have := h.a5; show c.ad ≤ 1000; omega)
  rw [d] at hl
  have la := ti_len' a
  have lb := ti_len' b
  have c0 := cs_0' c
  have c1 := cs_1' c
  obtain ⟨l, m1, m2⟩ := h1
  have hL : L ≤ 4 := by
    obtain ⟨p1, p2⟩ := ms_lt m1
    have hnd : l.Nodup := p2.imp fun h => Nat.ne_of_lt h
    have := hnd.length_le_of_subset (l₂ := List.range a.length) (fun x hx => List.mem_range.mpr (p1 x hx))
    rw [List.length_range] at this
    omega
  have k0' : mulOk ((a.length : Int) - (L : Int)) c.dr = true := by
    unfold mulOk
    have : decide (((a.length : Int) - (L : Int)).natAbs < 2 ^ 64) = true := by rw [decide_eq_true_eq]; omega
    rw [this]; rfl
  have k1' : mulOk ((b.length : Int) - (L : Int)) c.ad = true := by
    unfold mulOk
    have : decide (((b.length : Int) - (L : Int)).natAbs < 2 ^ 64) = true := by rw [decide_eq_true_eq]; omega
    rw [this]; rfl
  have k0 : oMul (.v (.int ((a.length : Int) - (L : Int)))) (.v (.int c.dr)) = some (.v (.int (((a.length : Int) - (L : Int)) * c.dr))) := by simp [oMul, k0']
  have k1 : oMul (.v (.int ((b.length : Int) - (L : Int)))) (.v (.int c.ad)) = some (.v (.int (((b.length : Int) - (L : Int)) * c.ad))) := by simp [oMul, k1']
  have hne := oNe_self (.int (((a.length : Int) - (L : Int)) * c.dr + ((b.length : Int) - (L : Int)) * c.ad)) (by simp [D.dep])
  unfold G.law_18 G.law_18t1 V47
  generalize ((a.length : Int) - (L : Int)) * c.dr = p1 at *
  generalize ((b.length : Int) - (L : Int)) * c.ad = p2 at *
  generalize ti a = A at *
  generalize ti b = B at *
  generalize csD c.back = Z2 at *
  generalize csD (dearC c) = Z3 at *
  generalize csD c = Z at *
  simp [hl, la, lb, c0, c1, k0, k1, hne, -len_v]
theorem n19 (x9 x10 x11 x12 x13 x14 x15 x16 x17 : Option Vl) : ∃ (R : List Nat) (s' : Rd), R.Sublist (List.range a.length) ∧ G.law_19 (V47 sc s a b t f c x9 x10 x11 x12 x13 x14 x15 x16 x17 none) = .nxt (V47 sc s' a b t f c x9 x10 x11 x12 x13 x14 x15 x16 x17 (some (.v (ti (R.map (sg a)))))) := by
  have n1 := h.la
  have la := ti_len' a
  let ev (s : Rd) : En := V47 sc s a b t f c x9 x10 x11 x12 x13 x14 x15 x16 x17 none
  obtain ⟨R, en2, hR, hc, s2, rfl⟩ := compS (vs := [20]) (it := iR1 (e1 oLen (eP 3))) (g := gN 20) (t := G.law_19t1) (x := eIxP 3 (eV 20)) (e := ev s) (e1 := ev s) (List.range a.length) nD (fun k => .int (sg a k)) (fun e => ∃ s' : Rd, e = ev s') (r1_e (n := a.length) (by
      show e1 _ _ (V47 _ _ _ _ _ _ _ _ _ _ _ _ _ _ _ _ _) = .ok _ (V47 _ _ _ _ _ _ _ _ _ _ _ _ _ _ _ _ _)
      unfold V47
      generalize csD c.back = Z2 at *
      generalize csD c = Z at *
      generalize ti a = A at *
      simp [la, -len_v]) (by omega)) (by rw [List.length_range]; unfold lim; omega) ⟨s, rfl⟩ (by
    rintro k hk e ⟨s1, rfl⟩
    have hk' := List.mem_range.mp hk
    obtain ⟨r, s3, r0, r1, h2⟩ := take_spec s1 2 (by omega) (by omega)
    have q := ti_sg a hk'
    let e20 (s : Rd) : En := [some (.v sc), some s.v, some (.v (.lst [ti a, ti b, ti t, ti f])), some (.v (ti a)), some (.v (ti b)), some (.v (ti t)), some (.v (ti f)), some (.v (csD c)), some (.v (csD c.back)), x9, x10, x11, x12, x13, x14, x15, x16, x17, none, none, some (.v (.int (k : Int))), none]
    refine ⟨e20 s1, decide (r = 0), e20 s3, rfl, ?_, fun _ => ⟨.v (.int (sg a k)), e20 s3, ?_, rfl, s3, rfl⟩, fun _ => ⟨s3, rfl⟩⟩
    · show G.law_19t1 [some (.v sc), some s1.v, some (.v (.lst [ti a, ti b, ti t, ti f])), some (.v (ti a)), some (.v (ti b)), some (.v (ti t)), some (.v (ti f)), some (.v (csD c)), some (.v (csD c.back)), x9, x10, x11, x12, x13, x14, x15, x16, x17, none, none, some (.v (.int (k : Int))), none] = .ok _ [some (.v sc), some s3.v, some (.v (.lst [ti a, ti b, ti t, ti f])), some (.v (ti a)), some (.v (ti b)), some (.v (ti t)), some (.v (ti f)), some (.v (csD c)), some (.v (csD c.back)), x9, x10, x11, x12, x13, x14, x15, x16, x17, none, none, some (.v (.int (k : Int))), none]
      unfold G.law_19t1
      have hz : oEq (.v (.int r)) (.v (.int 0)) = some (.v (.bl (decide (r = 0)))) := by rw [oEq_sm _ _ (by simp [D.dep])]; simp only [D.eq]
      generalize csD c.back = Z2 at *
      generalize decide (r = 0) = qq at *
      simp [h2, hz]
    · show eIxP _ _ [some (.v sc), some s3.v, some (.v (.lst [ti a, ti b, ti t, ti f])), some (.v (ti a)), some (.v (ti b)), some (.v (ti t)), some (.v (ti f)), some (.v (csD c)), some (.v (csD c.back)), x9, x10, x11, x12, x13, x14, x15, x16, x17, none, none, some (.v (.int (k : Int))), none] = .ok _ [some (.v sc), some s3.v, some (.v (.lst [ti a, ti b, ti t, ti f])), some (.v (ti a)), some (.v (ti b)), some (.v (ti t)), some (.v (ti f)), some (.v (csD c)), some (.v (csD c.back)), x9, x10, x11, x12, x13, x14, x15, x16, x17, none, none, some (.v (.int (k : Int))), none]
      generalize csD c.back = Z2 at *
      generalize ti a = A at *
      simp [q])
  refine ⟨R, s2, hR, ?_⟩
  have hun : unhide (ev s) (ev s2) [20] = ev s2 := rfl
  rw [hun] at hc
  have e : R.map (fun k => D.int (sg a k)) = (R.map (sg a)).map .int := by rw [List.map_map]; rfl
  rw [e] at hc
  have ht : oTuple (.o ((R.map (sg a)).map .int)) = some (.v (ti (R.map (sg a)))) := rfl
  unfold G.law_19
  generalize eComp [20] (iR1 (e1 oLen (eP 3))) (gN 20) G.law_19t1 (eIxP 3 (eV 20)) = Y at hc ⊢
  change Y (V47 sc s a b t f c x9 x10 x11 x12 x13 x14 x15 x16 x17 none) = .ok _ (V47 sc s2 a b t f c x9 x10 x11 x12 x13 x14 x15 x16 x17 none) at hc
  unfold V47 at hc ⊢
  generalize (R.map (sg a)).map D.int = Q at *
  generalize ti (R.map (sg a)) = Q2 at *
  generalize csD c.back = Z2 at *
  generalize ti a = A at *
  simp [hc, ht]
omit h
theorem map_rng (a : List Int) : (List.range a.length).map (sg a) = a := by
  apply List.ext_getElem?
  intro k
  by_cases hk : k < a.length
  · simp [hk, sg, List.getD]
  · rw [List.getElem?_eq_none (by simp; omega), List.getElem?_eq_none (by omega)]
theorem ms_len {a b : List Int} {l : List Nat} (m : MS a b a.length b.length l) : l.length ≤ a.length ∧ l.length ≤ b.length := by
  obtain ⟨p1, p2⟩ := ms_lt m
  have hnd : l.Nodup := p2.imp fun h => Nat.ne_of_lt h
  have h1 := hnd.length_le_of_subset (l₂ := List.range a.length) (fun x hx => List.mem_range.mpr (p1 x hx))
  rw [List.length_range] at h1
  have h2 := (ms_sub m (Nat.le_refl _)).length_le
  rw [List.length_map, List.take_length] at h2
  exact ⟨h1, h2⟩
/-- the greatest row is all of a part -/
theorem best_part {a : List Int} {R : List Nat} (hR : R.Sublist (List.range a.length)) : ((a.length : Int) + ((R.map (sg a)).length : Int) - eC' c112 a (R.map (sg a))) / 2 = ((R.map (sg a)).length : Int) := by
  obtain ⟨L, e, ⟨l, m1, m2⟩, m3⟩ := best_ms a (R.map (sg a))
  rw [e]
  have hpw : R.Pairwise (· < ·) := List.Pairwise.sublist hR List.pairwise_lt_range
  have hlt : ∀ x ∈ R, x < a.length := fun x hx => List.mem_range.mp (hR.subset hx)
  have m := sub_ms (a := a) (b := R.map (sg a)) (R.map (sg a)).length a.length R (Nat.le_refl _) hlt hpw (by rw [List.take_length]; exact List.Sublist.refl _)
  have h1 := m3 R m
  have h2 := (ms_len m1).2
  rw [List.length_map] at h2 ⊢
  omega
include h
theorem n20 (x9 x10 x11 x12 x13 x14 x15 x16 x17 : Option Vl) (R : List Nat) (hR : R.Sublist (List.range a.length)) : ∃ e', G.law_20 (V47 sc s a b t f c x9 x10 x11 x12 x13 x14 x15 x16 x17 (some (.v (ti (R.map (sg a)))))) = .ret (.v (.bl true)) e' := by
  have n1 := h.la
  have n2 := h.lb
  have hlen : R.length ≤ a.length := by have := hR.length_le; rw [List.length_range] at this; exact this
  have hsub : (R.map (sg a)).Sublist a := by
    have := hR.map (sg a)
    rwa [map_rng] at this
  have hw : (R.map (sg a)).length ≤ 8 := by rw [List.length_map]; omega
  have h1 := lst47 h (u := a) (w := R.map (sg a)) (by omega) hw
  have h2 := common_ok (a := a) (b := R.map (sg a)) (by omega) hw
  rw [best_part hR] at h2
  have h3 := common_ok (a := a) (b := b) (by omega) (by omega)
  have h4 := common_ok (a := b) (b := a) (by omega) (by omega)
  obtain ⟨L, eL, ⟨l, m1, m2⟩, m3⟩ := best_ms a b
  have hb : eC' c112 b a = eC' c112 a b := eC_back c112 a b
  have e4 : ((b.length : Int) + (a.length : Int) - eC' c112 b a) / 2 = (L : Int) := by
    rw [hb, ← eL]
    congr 1
    omega
  rw [eL] at h3
  rw [e4] at h4
  obtain ⟨l1, l2⟩ := ms_len m1
  have la := ti_len' a
  have lb := ti_len' b
  have lw := ti_len' (R.map (sg a))
  have c0 := cs_0' c
  have hle := eC_sub (c := c) hsub
  have k0' : mulOk ((a.length : Int) - ((R.map (sg a)).length : Int)) c.dr = true := by
    unfold mulOk
    have : decide (((a.length : Int) - ((R.map (sg a)).length : Int)).natAbs < 2 ^ 64) = true := by rw [decide_eq_true_eq, List.length_map]; omega
    rw [this]; rfl
  have k0 : oMul (.v (.int ((a.length : Int) - ((R.map (sg a)).length : Int)))) (.v (.int c.dr)) = some (.v (.int (((a.length : Int) - ((R.map (sg a)).length : Int)) * c.dr))) := by
    show (if mulOk _ _ = true then _ else _) = _
    rw [if_pos k0']
  have q1 : oEq (.v (.int ((R.map (sg a)).length : Int))) (.v (.int ((R.map (sg a)).length : Int))) = some (.v (.bl true)) := by rw [oEq_sm _ _ (by simp [D.dep]), eq_refl]
  have q2 : oEq (.v (.int (L : Int))) (.v (.int (L : Int))) = some (.v (.bl true)) := by rw [oEq_sm _ _ (by simp [D.dep]), eq_refl]
  have q3 : oMin2 (.v (.int (a.length : Int))) (.v (.int (b.length : Int))) = some (.v (.int (if (b.length : Int) < (a.length : Int) then (b.length : Int) else (a.length : Int)))) := rfl
  have q4 : (L : Int) ≤ (if (b.length : Int) < (a.length : Int) then (b.length : Int) else (a.length : Int)) := by split <;> omega
  refine ⟨V47 sc s a b t f c x9 x10 x11 x12 x13 x14 x15 x16 x17 (some (.v (ti (R.map (sg a))))), ?_⟩
  unfold G.law_20 V47
  generalize (if (b.length : Int) < (a.length : Int) then (b.length : Int) else (a.length : Int)) = mn at *
  generalize ((a.length : Int) - ((R.map (sg a)).length : Int)) * c.dr = p1 at *
  generalize eC' c a (R.map (sg a)) = v at *
  generalize ((R.map (sg a)).length : Int) = nw at *
  generalize ti (R.map (sg a)) = W at *
  generalize ti a = A at *
  generalize ti b = B at *
  generalize csD c.back = Z2 at *
  generalize csD c = Z at *
  simp [h1, h2, h3, h4, la, lb, lw, c0, k0, hle, q1, q2, q3, q4, eChain, -len_v]
end
namespace G
theorem law_ok (ns : List Int) (hl : ns.length ≤ 63) : F_law [.v (.lst (ns.map .int))] = .ok (.v (.bl true)) [] := by
  obtain ⟨seed, h0⟩ := begin_spec ns
  generalize hsc : D.lst (ns.map .int) = sc at *
  have g0 : law_0 [some (.v sc), none, none, none, none, none, none, none, none, none, none, none, none, none, none, none, none, none, none, none, none, none] = .nxt [some (.v sc), some (Rd.v ⟨ns, 0, 0, seed⟩), none, none, none, none, none, none, none, none, none, none, none, none, none, none, none, none, none, none, none, none] := by
    unfold law_0
    simp [h0]
  obtain ⟨W, s1, hW, hw, g1⟩ := n1 sc ⟨ns, 0, 0, seed⟩
  obtain ⟨a, b, t, f, rfl⟩ : ∃ a b t f, W = [a, b, t, f] := by
    match W, hW with
    | [a, b, t, f], _ => exact ⟨a, b, t, f, rfl⟩
  obtain ⟨c, s2, h, e2, e3, g2, g3, g4⟩ := n234 sc s1 a b t f ⟨hw a (by simp), hw b (by simp), hw t (by simp), hw f (by simp)⟩
  obtain ⟨L, hL, m1, m2⟩ := best_ms a b
  have g5 := n5 (sc := sc) (s := s2) h
  have g6 := n6 (sc := sc) (s := s2) h
  have g7 := n7 (sc := sc) (s := s2) h
  have g8 := n8 (sc := sc) (s := s2) h
  have g9 := n9 (sc := sc) (s := s2) h
  have g10 := n10 (sc := sc) (s := s2) h (some (.v (.int (eC' c a b))))
  have g11 := n11 (sc := sc) (s := s2) h (some (.v (.int (eC' c a b)))) (some (.v (.int (eC' c a b)))) (some (.v (tt (eT c a b))))
  have g12 := n12 (sc := sc) (s := s2) h (some (.v (.int (eC' c a b)))) (some (.v (.tup (wL (script c a b))))) (some (.v (tt (eT c a b))))
  have g13 := n13 (sc := sc) (s := s2) h (some (.v (.int (eC' c a b)))) (some (.v (.int (eC' c a b)))) (some (.v (.tup (wL (script c a b))))) (some (.v (tt (eT c a b)))) (some (.o (kdL c a b)))
  have g14 := n14 (sc := sc) (s := s2) h (some (.v (.int (eC' c a b)))) (some (.v (.int (eC' c a b)))) (some (.v (.tup (wL (script c a b))))) (some (.v (tt (eT c a b)))) (some (.o (kdL c a b))) (some (.dc tdL))
  have g15 := n15 (sc := sc) (s := s2) h (some (.v (.int (eC' c a b)))) (some (.v (tt (eT c a b)))) (some (.o (kdL c a b)))
  have g16 := n16 (sc := sc) (s := s2) h (some (.v (.int (eC' c a b)))) (some (.v (.int (eC' c a b)))) (some (.v (.tup (wL (script c a b))))) (some (.v (tt (eT c a b)))) (some (.o (kdL c a b))) (some (.dc tdL)) (some (.v (tt (eT c.back b a))))
  have g17 := n17 (sc := sc) (s := s2) h (some (.v (.int (eC' c a b)))) (some (.v (.int (eC' c a b)))) (some (.v (.tup (wL (script c a b))))) (some (.v (tt (eT c a b)))) (some (.o (kdL c a b))) (some (.dc tdL)) (some (.v (tt (eT c.back b a)))) (some (.v (csD (dearC c)))) L hL
  have g18 := n18 (sc := sc) (s := s2) h (some (.v (.int (eC' c a b)))) (some (.v (.int (eC' c a b)))) (some (.v (.tup (wL (script c a b))))) (some (.v (tt (eT c a b)))) (some (.o (kdL c a b))) (some (.dc tdL)) (some (.v (tt (eT c.back b a)))) L m1 m2
  obtain ⟨R, s3, hR, g19⟩ := n19 (sc := sc) (s := s2) h (some (.v (.int (eC' c a b)))) (some (.v (.int (eC' c a b)))) (some (.v (.tup (wL (script c a b))))) (some (.v (tt (eT c a b)))) (some (.o (kdL c a b))) (some (.dc tdL)) (some (.v (tt (eT c.back b a)))) (some (.v (csD (dearC c)))) (some (.v (.int (L : Int))))
  obtain ⟨e', g20⟩ := n20 (sc := sc) (s := s3) h (some (.v (.int (eC' c a b)))) (some (.v (.int (eC' c a b)))) (some (.v (.tup (wL (script c a b))))) (some (.v (tt (eT c a b)))) (some (.o (kdL c a b))) (some (.dc tdL)) (some (.v (tt (eT c.back b a)))) (some (.v (csD (dearC c)))) (some (.v (.int (L : Int)))) R hR
  suffices hz : ∃ e', c_law [some (.v sc), none, none, none, none, none, none, none, none, none, none, none, none, none, none, none, none, none, none, none, none, none] = .ret (.v (.bl true)) e' by
    obtain ⟨e', hz⟩ := hz
    exact run_of (os := []) hz rfl
  unfold c_law
  exact ⟨e', (seq_nxt g0).trans ((seq_nxt g1).trans ((seq_nxt g2).trans ((seq_nxt g3).trans ((seq_nxt g4).trans ((seq_nxt g5).trans ((seq_nxt g6).trans ((seq_nxt g7).trans ((seq_nxt g8).trans ((seq_nxt g9).trans ((seq_nxt g10).trans ((seq_nxt g11).trans ((seq_nxt g12).trans ((seq_nxt g13).trans ((seq_nxt g14).trans ((seq_nxt g15).trans ((seq_nxt g16).trans ((seq_nxt g17).trans ((seq_nxt g18).trans ((seq_nxt g19).trans g20)))))))))))))))))))⟩
end G
end Fx
end

set_option Elab.async false
set_option maxRecDepth 100000
set_option linter.all false
namespace Fx
namespace G
open PySem PySem.Spec PyProof.Rows L2
set_option maxHeartbeats 4000000 in
theorem all_mk {w : World} {K : PySem.W.Frag} {h : Heap} {mg : Str → Option Value} {fa : Addr} (X : K.In h) (G : h.Ns mainGlobals mg) (hfa : mg "law" = some (.ref fa))
    {q0 : Addr} {od0 an0 : Option Addr} {sl0 : Array (Option Value)} {oc0 kV0 dc0 pm0 cd0 ct0 : Value}
    {q1 : Addr} {od1 an1 : Option Addr} {sl1 : Array (Option Value)} {oc1 kV1 dc1 pm1 cd1 ct1 : Value}
    {q2 : Addr} {od2 an2 : Option Addr} {sl2 : Array (Option Value)} {oc2 kV2 dc2 pm2 cd2 ct2 : Value}
    {q3 : Addr} {od3 an3 : Option Addr} {sl3 : Array (Option Value)} {oc3 kV3 dc3 pm3 cd3 ct3 : Value}
    {q4 : Addr} {od4 an4 : Option Addr} {sl4 : Array (Option Value)} {oc4 kV4 dc4 pm4 cd4 ct4 : Value}
    {q5 : Addr} {od5 an5 : Option Addr} {sl5 : Array (Option Value)} {oc5 kV5 dc5 pm5 cd5 ct5 : Value}
    {q6 : Addr} {od6 an6 : Option Addr} {sl6 : Array (Option Value)} {oc6 kV6 dc6 pm6 cd6 ct6 : Value}
    {q7 : Addr} {od7 an7 : Option Addr} {sl7 : Array (Option Value)} {oc7 kV7 dc7 pm7 cd7 ct7 : Value}
    {q8 : Addr} {od8 an8 : Option Addr} {sl8 : Array (Option Value)} {oc8 kV8 dc8 pm8 cd8 ct8 : Value}
    {q9 : Addr} {od9 an9 : Option Addr} {sl9 : Array (Option Value)} {oc9 kV9 dc9 pm9 cd9 ct9 : Value}
    {q10 : Addr} {od10 an10 : Option Addr} {sl10 : Array (Option Value)} {oc10 kV10 dc10 pm10 cd10 ct10 : Value}
    {q11 : Addr} {od11 an11 : Option Addr} {sl11 : Array (Option Value)} {oc11 kV11 dc11 pm11 cd11 ct11 : Value}
    {q12 : Addr} {od12 an12 : Option Addr} {sl12 : Array (Option Value)} {oc12 kV12 dc12 pm12 cd12 ct12 : Value}
    {t_MOST_LENGTH : Tok}
    {cD cda cc fI : Addr} {ccl cl oci : Value} {cdd cld odi ani : Option Addr} {ccs csl osli : Array (Option Value)} {vsf : Array Value} {file : Str} {tf : Tok} {cdD : ClassData} {doci pmi cti : Value}
    {CWordError NWordError : Addr} {nmWordError qnWordError : Str} {bsWordError subWordError : List Value} {snWordError : List Str} {abWordError : Bool} {coWordError : Option Bool} {ddWordError : Option Addr} {m0WordError m1WordError m2WordError m3WordError m5WordError : Option Value}
    (a0 : PySem.W.nsIn K mainGlobals "is_integer" = some (some (.ref q0)))
    (l0 : K.lookup q0 = some ⟨oc0, od0, .func (PySem.W.fnOf "is_integer" "is_integer" (defArgs s_is_integer) (defBody s_is_integer) (defScope s_is_integer) .none kV0 dc0 pm0 an0 cd0 ct0), sl0⟩)
    (c0 : PySem.W.codeIn K cd0 "is_integer" = true)
    (k0 : PySem.W.keepIn K (.ref q0) = true)
    (a1 : PySem.W.nsIn K mainGlobals "check_words" = some (some (.ref q1)))
    (l1 : K.lookup q1 = some ⟨oc1, od1, .func (PySem.W.fnOf "check_words" "check_words" (defArgs s_check_words) (defBody s_check_words) (defScope s_check_words) .none kV1 dc1 pm1 an1 cd1 ct1), sl1⟩)
    (c1 : PySem.W.codeIn K cd1 "check_words" = true)
    (k1 : PySem.W.keepIn K (.ref q1) = true)
    (a2 : PySem.W.nsIn K mainGlobals "edit_table" = some (some (.ref q2)))
    (l2 : K.lookup q2 = some ⟨oc2, od2, .func (PySem.W.fnOf "edit_table" "edit_table" (defArgs s_edit_table) (defBody s_edit_table) (defScope s_edit_table) .none kV2 dc2 pm2 an2 cd2 ct2), sl2⟩)
    (c2 : PySem.W.codeIn K cd2 "edit_table" = true)
    (k2 : PySem.W.keepIn K (.ref q2) = true)
    (a3 : PySem.W.nsIn K mainGlobals "edit_paper" = some (some (.ref q3)))
    (l3 : K.lookup q3 = some ⟨oc3, od3, .func (PySem.W.fnOf "edit_paper" "edit_paper" (defArgs s_edit_paper) (defBody s_edit_paper) (defScope s_edit_paper) .none kV3 dc3 pm3 an3 cd3 ct3), sl3⟩)
    (c3 : PySem.W.codeIn K cd3 "edit_paper" = true)
    (k3 : PySem.W.keepIn K (.ref q3) = true)
    (a4 : PySem.W.nsIn K mainGlobals "script_cost" = some (some (.ref q4)))
    (l4 : K.lookup q4 = some ⟨oc4, od4, .func (PySem.W.fnOf "script_cost" "script_cost" (defArgs s_script_cost) (defBody s_script_cost) (defScope s_script_cost) .none kV4 dc4 pm4 an4 cd4 ct4), sl4⟩)
    (c4 : PySem.W.codeIn K cd4 "script_cost" = true)
    (k4 : PySem.W.keepIn K (.ref q4) = true)
    (a5 : PySem.W.nsIn K mainGlobals "is_table" = some (some (.ref q5)))
    (l5 : K.lookup q5 = some ⟨oc5, od5, .func (PySem.W.fnOf "is_table" "is_table" (defArgs s_is_table) (defBody s_is_table) (defScope s_is_table) .none kV5 dc5 pm5 an5 cd5 ct5), sl5⟩)
    (c5 : PySem.W.codeIn K cd5 "is_table" = true)
    (k5 : PySem.W.keepIn K (.ref q5) = true)
    (a6 : PySem.W.nsIn K mainGlobals "grows" = some (some (.ref q6)))
    (l6 : K.lookup q6 = some ⟨oc6, od6, .func (PySem.W.fnOf "grows" "grows" (defArgs s_grows) (defBody s_grows) (defScope s_grows) .none kV6 dc6 pm6 an6 cd6 ct6), sl6⟩)
    (c6 : PySem.W.codeIn K cd6 "grows" = true)
    (k6 : PySem.W.keepIn K (.ref q6) = true)
    (a7 : PySem.W.nsIn K mainGlobals "takes_edit" = some (some (.ref q7)))
    (l7 : K.lookup q7 = some ⟨oc7, od7, .func (PySem.W.fnOf "takes_edit" "takes_edit" (defArgs s_takes_edit) (defBody s_takes_edit) (defScope s_takes_edit) .none kV7 dc7 pm7 an7 cd7 ct7), sl7⟩)
    (c7 : PySem.W.codeIn K cd7 "takes_edit" = true)
    (k7 : PySem.W.keepIn K (.ref q7) = true)
    (a8 : PySem.W.nsIn K mainGlobals "common" = some (some (.ref q8)))
    (l8 : K.lookup q8 = some ⟨oc8, od8, .func (PySem.W.fnOf "common" "common" (defArgs s_common) (defBody s_common) (defScope s_common) .none kV8 dc8 pm8 an8 cd8 ct8), sl8⟩)
    (c8 : PySem.W.codeIn K cd8 "common" = true)
    (k8 : PySem.W.keepIn K (.ref q8) = true)
    (a9 : PySem.W.nsIn K mainGlobals "_law_begin" = some (some (.ref q9)))
    (l9 : K.lookup q9 = some ⟨oc9, od9, .func (PySem.W.fnOf "_law_begin" "_law_begin" (defArgs s__law_begin) (defBody s__law_begin) (defScope s__law_begin) .none kV9 dc9 pm9 an9 cd9 ct9), sl9⟩)
    (c9 : PySem.W.codeIn K cd9 "_law_begin" = true)
    (k9 : PySem.W.keepIn K (.ref q9) = true)
    (a10 : PySem.W.nsIn K mainGlobals "_law_take" = some (some (.ref q10)))
    (l10 : K.lookup q10 = some ⟨oc10, od10, .func (PySem.W.fnOf "_law_take" "_law_take" (defArgs s__law_take) (defBody s__law_take) (defScope s__law_take) .none kV10 dc10 pm10 an10 cd10 ct10), sl10⟩)
    (c10 : PySem.W.codeIn K cd10 "_law_take" = true)
    (k10 : PySem.W.keepIn K (.ref q10) = true)
    (a11 : PySem.W.nsIn K mainGlobals "_law_least" = some (some (.ref q11)))
    (l11 : K.lookup q11 = some ⟨oc11, od11, .func (PySem.W.fnOf "_law_least" "_law_least" (defArgs s__law_least) (defBody s__law_least) (defScope s__law_least) .none kV11 dc11 pm11 an11 cd11 ct11), sl11⟩)
    (c11 : PySem.W.codeIn K cd11 "_law_least" = true)
    (k11 : PySem.W.keepIn K (.ref q11) = true)
    (a12 : PySem.W.nsIn K mainGlobals "law" = some (some (.ref q12)))
    (l12 : K.lookup q12 = some ⟨oc12, od12, .func (PySem.W.fnOf "law" "law" (defArgs s_law) (defBody s_law) (defScope s_law) .none kV12 dc12 pm12 an12 cd12 ct12), sl12⟩)
    (c12 : PySem.W.codeIn K cd12 "law" = true)
    (k12 : PySem.W.keepIn K (.ref q12) = true)
    (z_abs : PySem.W.nsIn K mainGlobals "abs" = some none)
    (z_any : PySem.W.nsIn K mainGlobals "any" = some none)
    (z_bool : PySem.W.nsIn K mainGlobals "bool" = some none)
    (z_enumerate : PySem.W.nsIn K mainGlobals "enumerate" = some none)
    (z_int : PySem.W.nsIn K mainGlobals "int" = some none)
    (z_isinstance : PySem.W.nsIn K mainGlobals "isinstance" = some none)
    (z_len : PySem.W.nsIn K mainGlobals "len" = some none)
    (z_list : PySem.W.nsIn K mainGlobals "list" = some none)
    (z_max : PySem.W.nsIn K mainGlobals "max" = some none)
    (z_min : PySem.W.nsIn K mainGlobals "min" = some none)
    (z_range : PySem.W.nsIn K mainGlobals "range" = some none)
    (z_str : PySem.W.nsIn K mainGlobals "str" = some none)
    (z_super : PySem.W.nsIn K mainGlobals "super" = some none)
    (z_tuple : PySem.W.nsIn K mainGlobals "tuple" = some none)
    (g_MOST_LENGTH : PySem.W.nsIn K mainGlobals "MOST_LENGTH" = some (some (.int 8 t_MOST_LENGTH)))
    (iI : PySem.W.nsIn K mainGlobals "HallError" = some (some (.ref cD)))
    (iF : PySem.W.findIn K (.ref cD) "__init__" = some (some (.ref fI)))
    (iL : K.lookup fI = some ⟨oci, odi, .func (PySem.W.ksFn "__init__" "HallError.__init__" xA xB xS .none .none doci pmi ani (.ref cda) cti cc), osli⟩)
    (iA : K.lookup cda = some ⟨ccl, cdd, .fields vsf, ccs⟩)
    (iV : vsf[2]? = some (.str file tf))
    (iE : ((PySem.Challenge.pw_farandnear_k47_whole_turned_and_joined_w.main.file : Str) == file) = true)
    (iC : K.lookup cc = some ⟨cl, cld, .cell (some (.ref cD)), csl⟩)
    (iD : PySem.W.clsIn K cD = some cdD)
    (iS : (PySem.Challenge.pw_farandnear_k47_whole_turned_and_joined_w.main.scope.names.lookup ("super" : Str)).isSome = false)
    (iK : PySem.W.codeIn K (.ref cda) "HallError.__init__" = true)
    (iT : PySem.W.nsIn K PySem.cStatics "thirdparty.any" = some none)
    (iY : PySem.W.typeIn K (.ref fI) = some (.type "function"))
    (xaWordError : PySem.W.nsIn K mainGlobals "WordError" = some (some (.ref CWordError)))
    (xlWordError : K.lookup CWordError = some (PySem.excClassObj nmWordError qnWordError CWordError NWordError bsWordError [.ref cD, .type "ValueError", .type "Exception", .type "BaseException", .type "object"] true snWordError subWordError abWordError coWordError ddWordError m0WordError m1WordError m2WordError m3WordError m5WordError "ValueError.__new__"))
    (xsWordError : PySem.W.findIn K (.ref CWordError) "__setattr__" = some (some (.builtin "object.__setattr__")))
    (xnWordError : PySem.W.findIn K (.ref CWordError) "code" = some none)
    (xiWordError : PySem.W.findIn K (.ref CWordError) "__init__" = some (some (.ref fI)))
    (xgWordError : PySem.W.findIn K (.ref CWordError) "__getattribute__" = some (some (.builtin "BaseException.__getattribute__")))
    (xhWordError : PySem.W.findIn K (.ref CWordError) "__getattr__" = some none)
    (xkWordError : PySem.W.keepIn K (.ref CWordError) = true)
    (xeWordError : PySem.W.subIn K (.ref CWordError) (.type "BaseException") = some true)
    (xvWordError : PySem.W.subIn K (.ref CWordError) (.type "ValueError") = some true)
    (xtWordError : PySem.W.typeIn K (.ref CWordError) = some (.type "type"))
    (xdWordError : PySem.W.hasDictIn K CWordError = true)
    (xmWordError : PySem.W.mroIn K CWordError (.ref cD) = some true)
    (xuWordError : PySem.W.ks_superIn K CWordError cD "__init__" = some (some (.builtin "ValueError.__init__"))) :
    ∃ fd : FuncData, (∀ (s : Shared) (v : Value), BindsTo s fd ⟨[v], []⟩ [("script", v)]) ∧ ∀ base : Heap, K.In base → base.Ns mainGlobals mg → FnOk PySem.Challenge.pw_farandnear_k47_whole_turned_and_joined_w w K mg base CX0 7 fa fd ["script"] (spLaw K) := by
  have e := hfa.symm.trans (PySem.W.mg_of X G a12)
  cases e
  refine ⟨_, fun s v => .of_eq rfl, fun base _ _ => t_law (P := PySem.Challenge.pw_farandnear_k47_whole_turned_and_joined_w) (w := w) (base := base) ?_ (fun_mk (st := s_law) l12 c12 k12) law_ok⟩
  exact {
    f_is_integer := ⟨⟨_, _, fun_mk (st := s_is_integer) l0 c0 k0, (fun_mk (st := s_is_integer) l0 c0 k0).binds (ps := ["value"]) (fun _ _ _ _ _ _ us hl => match us, hl with | [_], _ => rfl), PySem.W.mg_of X G a0⟩⟩
    f_check_words := ⟨⟨_, _, fun_mk (st := s_check_words) l1 c1 k1, (fun_mk (st := s_check_words) l1 c1 k1).binds (ps := ["one", "other", "costs"]) (fun _ _ _ _ _ _ us hl => match us, hl with | [_, _, _], _ => rfl), PySem.W.mg_of X G a1⟩⟩
    f_edit_table := ⟨⟨_, _, fun_mk (st := s_edit_table) l2 c2 k2, (fun_mk (st := s_edit_table) l2 c2 k2).binds (ps := ["one", "other", "costs"]) (fun _ _ _ _ _ _ us hl => match us, hl with | [_, _, _], _ => rfl), PySem.W.mg_of X G a2⟩⟩
    f_edit_paper := ⟨⟨_, _, fun_mk (st := s_edit_paper) l3 c3 k3, (fun_mk (st := s_edit_paper) l3 c3 k3).binds (ps := ["one", "other", "costs"]) (fun _ _ _ _ _ _ us hl => match us, hl with | [_, _, _], _ => rfl), PySem.W.mg_of X G a3⟩⟩
    f_script_cost := ⟨⟨_, _, fun_mk (st := s_script_cost) l4 c4 k4, (fun_mk (st := s_script_cost) l4 c4 k4).binds (ps := ["one", "other", "costs", "script"]) (fun _ _ _ _ _ _ us hl => match us, hl with | [_, _, _, _], _ => rfl), PySem.W.mg_of X G a4⟩⟩
    f_is_table := ⟨⟨_, _, fun_mk (st := s_is_table) l5 c5 k5, (fun_mk (st := s_is_table) l5 c5 k5).binds (ps := ["table", "high", "wide"]) (fun _ _ _ _ _ _ us hl => match us, hl with | [_, _, _], _ => rfl), PySem.W.mg_of X G a5⟩⟩
    f_grows := ⟨⟨_, _, fun_mk (st := s_grows) l6 c6 k6, (fun_mk (st := s_grows) l6 c6 k6).binds (ps := ["one", "other", "costs", "table"]) (fun _ _ _ _ _ _ us hl => match us, hl with | [_, _, _, _], _ => rfl), PySem.W.mg_of X G a6⟩⟩
    f_takes_edit := ⟨⟨_, _, fun_mk (st := s_takes_edit) l7 c7 k7, (fun_mk (st := s_takes_edit) l7 c7 k7).binds (ps := ["one", "other", "costs", "paper"]) (fun _ _ _ _ _ _ us hl => match us, hl with | [_, _, _, _], _ => rfl), PySem.W.mg_of X G a7⟩⟩
    f_common := ⟨⟨_, _, fun_mk (st := s_common) l8 c8 k8, (fun_mk (st := s_common) l8 c8 k8).binds (ps := ["one", "other"]) (fun _ _ _ _ _ _ us hl => match us, hl with | [_, _], _ => rfl), PySem.W.mg_of X G a8⟩⟩
    f__law_begin := ⟨⟨_, _, fun_mk (st := s__law_begin) l9 c9 k9, (fun_mk (st := s__law_begin) l9 c9 k9).binds (ps := ["script"]) (fun _ _ _ _ _ _ us hl => match us, hl with | [_], _ => rfl), PySem.W.mg_of X G a9⟩⟩
    f__law_take := ⟨⟨_, _, fun_mk (st := s__law_take) l10 c10 k10, (fun_mk (st := s__law_take) l10 c10 k10).binds (ps := ["d", "many"]) (fun _ _ _ _ _ _ us hl => match us, hl with | [_, _], _ => rfl), PySem.W.mg_of X G a10⟩⟩
    f__law_least := ⟨⟨_, _, fun_mk (st := s__law_least) l11 c11 k11, (fun_mk (st := s__law_least) l11 c11 k11).binds (ps := ["one", "other", "costs"]) (fun _ _ _ _ _ _ us hl => match us, hl with | [_, _, _], _ => rfl), PySem.W.mg_of X G a11⟩⟩
    z_abs := PySem.W.mg_none_of X G z_abs
    z_any := PySem.W.mg_none_of X G z_any
    z_bool := PySem.W.mg_none_of X G z_bool
    z_enumerate := PySem.W.mg_none_of X G z_enumerate
    z_int := PySem.W.mg_none_of X G z_int
    z_isinstance := PySem.W.mg_none_of X G z_isinstance
    z_len := PySem.W.mg_none_of X G z_len
    z_list := PySem.W.mg_none_of X G z_list
    z_max := PySem.W.mg_none_of X G z_max
    z_min := PySem.W.mg_none_of X G z_min
    z_range := PySem.W.mg_none_of X G z_range
    z_str := PySem.W.mg_none_of X G z_str
    z_super := PySem.W.mg_none_of X G z_super
    z_tuple := PySem.W.mg_none_of X G z_tuple
    k_MOST_LENGTH := ⟨_, PySem.W.mg_of X G g_MOST_LENGTH⟩
    x_WordError := ⟨⟨CWordError, fI, "HallError.__init__", PySem.W.mg_of X G xaWordError, { cls := ⟨_, _, _, _, _, _, _, _, _, _, _, _, _, _, _, xlWordError, rfl⟩, sa := xsWordError, noN := xnWordError, iC := xiWordError, tC := iY, kC := xkWordError, exC := xeWordError, veC := xvWordError, tyC := xtWordError, tp := iT, sup := z_super, file := ⟨cD, cda, cc, _, _, _, _, _, _, _, _, _, _, _, _, _, _, _, _, _, iA, iV, iE, iC, iD, xmWordError, xuWordError, iS, iL, iK⟩ }, { ga := xgWordError, gg := xhWordError, exC := xeWordError, hdC := xdWordError }⟩⟩
  }
end G
end Fx
open PySem PySem.W PyProof.Rows
set_option maxHeartbeats 0 in
theorem PySem.Challenge.cw_farandnear_k47_whole_turned_and_joined_w_holds : PySem.Challenge.rw_farandnear_k47_whole_turned_and_joined_w.Holds := by
  w_on; o_law; k_head; (case hw => w_witness2)
  k_fill
  refine L2.walk_of (l := PySem.Challenge.rw_farandnear_k47_whole_turned_and_joined_w) (n := 63) (k := 7) (x := "script") (CX := fun _ => L2.CX0) (sp := fun w => Fx.spLaw _) rfl (by decide) rfl ⟨rfl, by decide, by decide⟩ (fun w h Y => PySem.W.kIn_of Y) ?F (fun _ _ a ns hl ho hS => ⟨a, ns, rfl, hS, hl, ho, fun _ => rfl⟩) (fun _ _ _ _ _ h => h)
  case F =>
    intro w mg fa h KX G hmg
    refine' Fx.G.all_mk KX G hmg ?a0 ?l0 ?c0 ?k0 ?a1 ?l1 ?c1 ?k1 ?a2 ?l2 ?c2 ?k2 ?a3 ?l3 ?c3 ?k3 ?a4 ?l4 ?c4 ?k4 ?a5 ?l5 ?c5 ?k5 ?a6 ?l6 ?c6 ?k6 ?a7 ?l7 ?c7 ?k7 ?a8 ?l8 ?c8 ?k8 ?a9 ?l9 ?c9 ?k9 ?a10 ?l10 ?c10 ?k10 ?a11 ?l11 ?c11 ?k11 ?a12 ?l12 ?c12 ?k12 ?z_abs ?z_any ?z_bool ?z_enumerate ?z_int ?z_isinstance ?z_len ?z_list ?z_max ?z_min ?z_range ?z_str ?z_super ?z_tuple ?g_MOST_LENGTH ?iI ?iF ?iL ?iA ?iV ?iE ?iC ?iD ?iS ?iK ?iT ?iY ?xaWordError ?xlWordError ?xsWordError ?xnWordError ?xiWordError ?xgWordError ?xhWordError ?xkWordError ?xeWordError ?xvWordError ?xtWordError ?xdWordError ?xmWordError ?xuWordError
    (case a0 => k_is)
    (case l0 => k_is)
    (case c0 => k_is)
    (case k0 => k_is)
    (case a1 => k_is)
    (case l1 => k_is)
    (case c1 => k_is)
    (case k1 => k_is)
    (case a2 => k_is)
    (case l2 => k_is)
    (case c2 => k_is)
    (case k2 => k_is)
    (case a3 => k_is)
    (case l3 => k_is)
    (case c3 => k_is)
    (case k3 => k_is)
    (case a4 => k_is)
    (case l4 => k_is)
    (case c4 => k_is)
    (case k4 => k_is)
    (case a5 => k_is)
    (case l5 => k_is)
    (case c5 => k_is)
    (case k5 => k_is)
    (case a6 => k_is)
    (case l6 => k_is)
    (case c6 => k_is)
    (case k6 => k_is)
    (case a7 => k_is)
    (case l7 => k_is)
    (case c7 => k_is)
    (case k7 => k_is)
    (case a8 => k_is)
    (case l8 => k_is)
    (case c8 => k_is)
    (case k8 => k_is)
    (case a9 => k_is)
    (case l9 => k_is)
    (case c9 => k_is)
    (case k9 => k_is)
    (case a10 => k_is)
    (case l10 => k_is)
    (case c10 => k_is)
    (case k10 => k_is)
    (case a11 => k_is)
    (case l11 => k_is)
    (case c11 => k_is)
    (case k11 => k_is)
    (case a12 => k_is)
    (case l12 => k_is)
    (case c12 => k_is)
    (case k12 => k_is)
    (case z_abs => k_is)
    (case z_any => k_is)
    (case z_bool => k_is)
    (case z_enumerate => k_is)
    (case z_int => k_is)
    (case z_isinstance => k_is)
    (case z_len => k_is)
    (case z_list => k_is)
    (case z_max => k_is)
    (case z_min => k_is)
    (case z_range => k_is)
    (case z_str => k_is)
    (case z_super => k_is)
    (case z_tuple => k_is)
    (case g_MOST_LENGTH => k_is)
    (case iI => k_is)
    (case iF => k_is)
    (case iL => k_is)
    (case iA => k_is)
    (case iV => first | rfl | k_is)
    (case iE => first | rfl | decide | k_is)
    (case iC => k_is)
    (case iD => first | k_is | rfl)
    (case iS => first | decide +kernel | rfl)
    (case iK => k_is)
    (case iT => k_is)
    (case iY => k_is)
    (case xaWordError => k_is)
    (case xlWordError => k_is)
    (case xsWordError => k_is)
    (case xnWordError => k_is)
    (case xiWordError => k_is)
    (case xgWordError => k_is)
    (case xhWordError => k_is)
    (case xkWordError => k_is)
    (case xeWordError => k_is)
    (case xvWordError => k_is)
    (case xtWordError => k_is)
    (case xdWordError => k_is)
    (case xmWordError => k_is)
    (case xuWordError => first | k_is | rfl)
