import PyProof.Rows.All
import Wide.All
import OpenK.AllK
import Wide.FinOn
import PyProof.ReprReads
import HandS.ForMost
import HandS.TupLe
import HandS.Exc
import HandS.TupMul
import HandS.TupAny
import HandS.Wide
import HandS.Deep
import HandS.RaiseMore
import PyProof.ReprRoads
import HandS.Flow
import HandS.Defaults
import KE.KExcSuper
import KE.KSuper
import KE.KExcMake
import HandS.ExcSuper
import KE.KExcIs
import HandS.ExcField
import HandS.CallLocal
import HandS.Style
import HandS.Zip
import HandS.IsInst
import HandS.WordsExc
import HandS.HeadHook1
import HandS.HeadHook2
import KE.KStateDown
import HandS.EndBits
import HandS.HeadEnd
import HandS.Head0
import HandS.Head1
import HandS.Head2
import PySem.Challenge.RW_wormsinline_k04_worms_together_and_in_li
set_option linter.all false
set_option linter.all false
/-! PyA -/
namespace PY
open PySem (Str Operator CmpOp)

/-- a deep value; lists, dicts, sets stand by value -/
inductive D where
  | non | bl (b : Bool) | int (i : Int) | str (x : Str)
  | tup (xs : List D) | lst (xs : List D)
  | dic (ks vs : List D) | st (xs : List D)
  | exc (c : Str) (v : D) | fn (x : Str)
  deriving Inhabited

mutual
def D.dec : (a b : D) → Decidable (a = b)
  | .non, .non => isTrue rfl
  | .bl a, .bl b => if h : a = b then isTrue (by rw [h]) else isFalse (by intro e; cases e; exact h rfl)
  | .int a, .int b => if h : a = b then isTrue (by rw [h]) else isFalse (by intro e; cases e; exact h rfl)
  | .str a, .str b => if h : a = b then isTrue (by rw [h]) else isFalse (by intro e; cases e; exact h rfl)
  | .fn a, .fn b => if h : a = b then isTrue (by rw [h]) else isFalse (by intro e; cases e; exact h rfl)
  | .tup a, .tup b => match D.decs a b with | isTrue h => isTrue (by rw [h]) | isFalse h => isFalse (by intro e; cases e; exact h rfl)
  | .lst a, .lst b => match D.decs a b with | isTrue h => isTrue (by rw [h]) | isFalse h => isFalse (by intro e; cases e; exact h rfl)
  | .st a, .st b => match D.decs a b with | isTrue h => isTrue (by rw [h]) | isFalse h => isFalse (by intro e; cases e; exact h rfl)
  | .dic a c, .dic b d => match D.decs a b, D.decs c d with
    | isTrue h, isTrue g => isTrue (by rw [h, g])
    | isFalse h, _ => isFalse (by intro e; cases e; exact h rfl)
    | _, isFalse h => isFalse (by intro e; cases e; exact h rfl)
  | .exc a c, .exc b d => if h : a = b then match D.dec c d with | isTrue g => isTrue (by rw [h, g]) | isFalse g => isFalse (by intro e; cases e; exact g rfl) else isFalse (by intro e; cases e; exact h rfl)
  | .non, .bl _ | .non, .int _ | .non, .str _ | .non, .tup _ | .non, .lst _ | .non, .dic _ _ | .non, .st _ | .non, .exc _ _ | .non, .fn _ => isFalse (by intro e; cases e)
  | .bl _, .non | .bl _, .int _ | .bl _, .str _ | .bl _, .tup _ | .bl _, .lst _ | .bl _, .dic _ _ | .bl _, .st _ | .bl _, .exc _ _ | .bl _, .fn _ => isFalse (by intro e; cases e)
  | .int _, .non | .int _, .bl _ | .int _, .str _ | .int _, .tup _ | .int _, .lst _ | .int _, .dic _ _ | .int _, .st _ | .int _, .exc _ _ | .int _, .fn _ => isFalse (by intro e; cases e)
  | .str _, .non | .str _, .bl _ | .str _, .int _ | .str _, .tup _ | .str _, .lst _ | .str _, .dic _ _ | .str _, .st _ | .str _, .exc _ _ | .str _, .fn _ => isFalse (by intro e; cases e)
  | .tup _, .non | .tup _, .bl _ | .tup _, .int _ | .tup _, .str _ | .tup _, .lst _ | .tup _, .dic _ _ | .tup _, .st _ | .tup _, .exc _ _ | .tup _, .fn _ => isFalse (by intro e; cases e)
  | .lst _, .non | .lst _, .bl _ | .lst _, .int _ | .lst _, .str _ | .lst _, .tup _ | .lst _, .dic _ _ | .lst _, .st _ | .lst _, .exc _ _ | .lst _, .fn _ => isFalse (by intro e; cases e)
  | .dic _ _, .non | .dic _ _, .bl _ | .dic _ _, .int _ | .dic _ _, .str _ | .dic _ _, .tup _ | .dic _ _, .lst _ | .dic _ _, .st _ | .dic _ _, .exc _ _ | .dic _ _, .fn _ => isFalse (by intro e; cases e)
  | .st _, .non | .st _, .bl _ | .st _, .int _ | .st _, .str _ | .st _, .tup _ | .st _, .lst _ | .st _, .dic _ _ | .st _, .exc _ _ | .st _, .fn _ => isFalse (by intro e; cases e)
  | .exc _ _, .non | .exc _ _, .bl _ | .exc _ _, .int _ | .exc _ _, .str _ | .exc _ _, .tup _ | .exc _ _, .lst _ | .exc _ _, .dic _ _ | .exc _ _, .st _ | .exc _ _, .fn _ => isFalse (by intro e; cases e)
  | .fn _, .non | .fn _, .bl _ | .fn _, .int _ | .fn _, .str _ | .fn _, .tup _ | .fn _, .lst _ | .fn _, .dic _ _ | .fn _, .st _ | .fn _, .exc _ _ => isFalse (by intro e; cases e)
def D.decs : (a b : List D) → Decidable (a = b)
  | [], [] => isTrue rfl
  | [], _ :: _ => isFalse (by intro e; cases e)
  | _ :: _, [] => isFalse (by intro e; cases e)
  | x :: xs, y :: ys => match D.dec x y, D.decs xs ys with
    | isTrue h, isTrue g => isTrue (by rw [h, g])
    | isFalse h, _ => isFalse (by intro e; cases e; exact h rfl)
    | _, isFalse h => isFalse (by intro e; cases e; exact h rfl)
end
instance : DecidableEq D := D.dec

/-- a value as a name holds it: by value, or a cell (an object that may change) -/
inductive T where
  | val (d : D) | loc (n : Nat)
  deriving Inhabited, DecidableEq
/-- a cell's content; frz: it is never changed any more -/
inductive Ob where
  | lst (xs : List D) | dic (ks vs : List D) | st (xs : List D) | frz (d : D)
  deriving Inhabited, DecidableEq
abbrev Mu := List Ob
abbrev Rho := List (Option T)
/-- what an expression gives; fr: a new object that nobody else holds -/
inductive R where
  | ok (t : T) (fr : Bool) (m : Mu)
  | ex (e : D) (m : Mu)
inductive RL where
  | ok (ts : List T) (m : Mu)
  | ex (e : D) (m : Mu)
inductive RS where
  | nx (r : Rho) (m : Mu)
  | bk (r : Rho) (m : Mu)
  | rt (t : T) (fr : Bool) (m : Mu)
  | ex (e : D) (r : Rho) (m : Mu)

def Ob.d : Ob → D
  | .lst xs => .lst xs
  | .dic ks vs => .dic ks vs
  | .st xs => .st xs
  | .frz d => d
/-- what stands there now -/
def rd (m : Mu) : T → Option D
  | .val d => some d
  | .loc n => (m[n]?).map Ob.d
/-- taken into another object: it may not change any more -/
def tk (m : Mu) : T → Option (D × Mu)
  | .val d => some (d, m)
  | .loc n => match m[n]? with
    | some o => some (o.d, m.set n (.frz o.d))
    | none => none

/-! PyA -/
def truth : D → Option Bool
  | .non => some false
  | .bl b => some b
  | .int i => some (i != 0)
  | .str x => if x.cps.size ≤ 16777216 then some ((x.cps.size : Int) != 0) else none
  | .tup xs => some (!xs.isEmpty)
  | .lst xs => some (!xs.isEmpty)
  | .dic ks _ => some (!ks.isEmpty)
  | _ => none

mutual
/-- Python's == of plain data -/
def eqD : D → D → Bool
  | .non, .non => true
  | .bl a, .bl b => a == b
  | .bl a, .int j => (if a then 1 else 0) == j
  | .int i, .bl b => i == (if b then 1 else 0)
  | .int i, .int j => i == j
  | .str x, .str y => x == y
  | .tup xs, .tup ys => eqDs xs ys
  | .lst xs, .lst ys => eqDs xs ys
  | _, _ => false
def eqDs : List D → List D → Bool
  | [], [] => true
  | x :: xs, y :: ys => eqD x y && eqDs xs ys
  | _, _ => false
end
mutual
/-- None, bools, ints, texts, lists and tuples of such -/
def D.plain : D → Bool
  | .non => true
  | .bl _ => true
  | .int _ => true
  | .str x => x.cps.all (· < 0x110000)
  | .tup xs => plains xs
  | .lst xs => plains xs
  | _ => false
def plains : List D → Bool
  | [] => true
  | x :: xs => D.plain x && plains xs
end
mutual
def D.depth : D → Nat
  | .tup xs => depths xs + 1
  | .lst xs => depths xs + 1
  | _ => 0
def depths : List D → Nat
  | [] => 0
  | x :: xs => max (D.depth x) (depths xs)
end
/-- the machine compares these -/
def okCmp (a b : D) : Bool := a.plain && b.plain && decide (min a.depth b.depth ≤ 64)
mutual
/-- Python's order: none where it raises -/
def cmpD : D → D → Option Ordering
  | .int i, .int j => some (compare i j)
  | .str x, .str y => some (if x = y then .eq else if x.cps.toList < y.cps.toList then .lt else .gt)
  | .tup xs, .tup ys => cmpDs xs ys
  | _, _ => none
def cmpDs : List D → List D → Option Ordering
  | [], [] => some .eq
  | [], _ :: _ => some .lt
  | _ :: _, [] => some .gt
  | x :: xs, y :: ys => if eqD x y = true then cmpDs xs ys else cmpD x y
end
/-- the list, the tuple -/
def seqD : D → Option (List D)
  | .tup xs => some xs
  | .lst xs => some xs
  | _ => none
def isFlat : D → Bool
  | .non => true
  | .bl _ => true
  | .int _ => true
  | .str _ => true
  | _ => false
/-- x in c -/
def inD (x c : D) : Option Bool :=
  match c with
  | .tup xs => if x.plain && plains xs && decide (min x.depth (depths xs) ≤ 60) then some (xs.any fun y => eqD y x) else none
  | .lst xs => if x.plain && plains xs && decide (min x.depth (depths xs) ≤ 60) then some (xs.any fun y => eqD y x) else none
  | .str z => (match x with
    | .str c => (match c.cps.toList with
      | [k] => some (decide (k ∈ z.cps.toList))
      | _ => none)
    | _ => none)
  | _ => none
def cop (op : CmpOp) (a b : D) : Option Bool :=
  match op with
  | .Eq => if okCmp a b then some (eqD a b) else none
  | .NotEq => if okCmp a b then some (!eqD a b) else none
  | .Lt => if okCmp a b then (cmpD a b).map (· == .lt) else none
  | .LtE => if okCmp a b then (cmpD a b).map (· != .gt) else none
  | .Gt => if okCmp a b then (cmpD a b).map (· == .gt) else none
  | .GtE => if okCmp a b then (cmpD a b).map (· != .lt) else none
  | .Is => match b with
    | .non => some (match a with | .non => true | _ => false)
    | .bl c => (match a with | .bl d => some (c == d) | _ => none)
    | _ => none
  | .IsNot => match b with
    | .non => some (match a with | .non => false | _ => true)
    | .bl c => (match a with | .bl d => some (c != d) | _ => none)
    | _ => none
  | .In => inD a b
  | .NotIn => (inD a b).map (!·)

def line : Nat := 16777216
/-- the model's bound for products -/
def mulOk (i j : Int) : Bool := decide (i.natAbs < 2 ^ 64) || decide (j.natAbs < 2 ^ 64) || (decide (i.natAbs < 2 ^ 4096) && decide (j.natAbs < 2 ^ 4096))
def divOk (j : Int) : Bool := decide (0 < j) && decide (j.toNat < 2 ^ 1024)
/-- a op b; whether the value is a new object -/
def bop (op : Operator) (a b : D) : Option (D × Bool) :=
  match op with
  | .Add => (match a, b with
    | .int i, .int j => some (.int (i + j), false)
    | .str x, .str y => if x.cps.size + y.cps.size ≤ line then some (.str (x ++ y), false) else none
    | .tup xs, .tup ys => if xs.length + ys.length ≤ line then some (.tup (xs ++ ys), false) else none
    | .lst xs, .lst ys => if xs.length + ys.length ≤ line then some (.lst (xs ++ ys), true) else none
    | _, _ => none)
  | .Sub => (match a, b with
    | .int i, .int j => some (.int (i - j), false)
    | _, _ => none)
  | .Mult => (match a, b with
    | .int i, .int j => if mulOk i j then some (.int (i * j), false) else none
    | .tup xs, .int n => if decide (-(2 ^ 62) < n) && decide (n ≤ 1000) && decide (xs.length ≤ 1000) then some (.tup ((List.replicate n.toNat xs).flatten), false) else none
    | .lst xs, .int n => if decide (-(2 ^ 62) < n) && decide (n < 2 ^ 62) && decide (xs.length * n.toNat ≤ line) then some (.lst ((List.replicate n.toNat xs).flatten), true) else none
    | _, _ => none)
  | .FloorDiv => (match a, b with
    | .int i, .int j => if divOk j then some (.int (i / j), false) else none
    | _, _ => none)
  | .Mod => (match a, b with
    | .int i, .int j => if decide (0 < j) then some (.int (i % j), false) else none
    | _, _ => none)
  | .Pow => (match a, b with
    | .int i, .int j => if decide (0 ≤ j) && decide (j ≤ 1000) && decide (i.natAbs < 2 ^ 64) then some (.int (i ^ j.toNat), false) else none
    | _, _ => none)
  | _ => none
def negD : D → Option D
  | .int i => some (.int (-i))
  | _ => none

def ixN (n : Nat) (i : Int) : Option Nat := if 0 ≤ i then (if i < n then some i.toNat else none) else if -(n : Int) ≤ i then some (i + n).toNat else none
def atD {α : Type} (xs : List α) (i : Int) : Option α := (ixN xs.length i).bind fun j => xs[j]?
/-- d[i] -/
def idxD (d i : D) : Option D :=
  match d, i with
  | .tup xs, .int k => atD xs k
  | .lst xs, .int k => atD xs k
  | .str x, .int k => if x.cps.size ≤ line then (atD x.cps.toList k).map fun c => .str ⟨#[c]⟩ else none
  | _, _ => none
/-- a bound of a slice, in its range -/
def sx (n dflt : Nat) : D → Option Nat
  | .non => some dflt
  | .int i => some (if i < 0 then (i + (n : Int)).toNat else min i.toNat n)
  | _ => none
def cutL {α : Type} (xs : List α) (lo hi : Nat) : List α := (xs.drop lo).take (hi - lo)
def slcD (d lo hi : D) : Option (D × Bool) :=
  match d with
  | .tup xs => (sx xs.length 0 lo).bind fun a => (sx xs.length xs.length hi).map fun b => (.tup (cutL xs a b), false)
  | .lst xs => (sx xs.length 0 lo).bind fun a => (sx xs.length xs.length hi).map fun b => (.lst (cutL xs a b), true)
  | .str x => if x.cps.size ≤ line then (sx x.cps.size 0 lo).bind fun a => (sx x.cps.size x.cps.size hi).map fun b => (.str ⟨(cutL x.cps.toList a b).toArray⟩, false) else none
  | _ => none
/-- d[lo:hi] with the parts that are written -/
def slcB (l h : Bool) (d : D) (ds : List D) : Option (D × Bool) :=
  match l, h, ds with
  | false, false, [] => slcD d .non .non
  | true, false, [.int i] => slcD d (.int i) .non
  | false, true, [.int j] => slcD d .non (.int j)
  | true, true, [.int i, .int j] => slcD d (.int i) (.int j)
  | _, _, _ => none
/-- d[::-1] -/
def revD : D → Option (D × Bool)
  | .lst xs => some (.lst xs.reverse, true)
  | .tup xs => some (.tup xs.reverse, false)
  | _ => none

/-- built-in functions of values -/
inductive Bt where
  | len | abs | max | min | int | tuple | list | all | any | sum | sorted | sortedr | repr
  deriving DecidableEq
def intsOf : List D → Option (List Int)
  | [] => some []
  | .int i :: r => (intsOf r).map (i :: ·)
  | _ => none
def boolsOf : List D → Option (List Bool)
  | [] => some []
  | .bl b :: r => (boolsOf r).map (b :: ·)
  | .int i :: r => (boolsOf r).map ((i != 0) :: ·)
  | .non :: r => (boolsOf r).map (false :: ·)
  | _ => none
def maxI : Int → List Int → Int
  | m, [] => m
  | m, x :: r => maxI (if m < x then x else m) r
def minI : Int → List Int → Int
  | m, [] => m
  | m, x :: r => minI (if x < m then x else m) r
/-- every two of them compare -/
def comparable (xs : List D) : Bool := xs.all fun x => xs.all fun y => okCmp x y && (cmpD x y).isSome
def leD (a b : D) : Bool := cmpD a b != some .gt
def geD (a b : D) : Bool := cmpD a b != some .lt
mutual
/-- plain data, for the library -/
def toPy : D → PySem.PyData
  | .non => .none
  | .bl b => .bool b
  | .int i => .int i
  | .str x => .str x
  | .tup xs => .tuple (toPys xs)
  | .lst xs => .list (toPys xs)
  | _ => .none
def toPys : List D → List PySem.PyData
  | [] => []
  | x :: xs => toPy x :: toPys xs
end
def reprD (d : D) : Str := (toPy d).shown
def reprOk (d : D) : Bool := d.plain && decide (d.depth ≤ 60) && (toPy d).showable && decide ((reprD d).cps.size ≤ 1000000)
def blt (b : Bt) (ds : List D) : Option (D × Bool) :=
  match b with
  | .len => (match ds with
    | [.tup xs] => some (.int xs.length, false)
    | [.lst xs] => some (.int xs.length, false)
    | [.str x] => if x.cps.size ≤ line then some (.int x.cps.size, false) else none
    | [.dic ks _] => some (.int ks.length, false)
    | _ => none)
  | .abs => (match ds with
    | [.int i] => some (.int (if i < 0 then -i else i), false)
    | _ => none)
  | .max => (match ds with
    | [.int i, .int j] => some (.int (if i < j then j else i), false)
    | [d] => (seqD d).bind fun xs => (intsOf xs).bind fun is => (match is with | [] => none | i :: r => some (.int (maxI i r), false))
    | _ => none)
  | .min => (match ds with
    | [.int i, .int j] => some (.int (if j < i then j else i), false)
    | [d] => (seqD d).bind fun xs => (intsOf xs).bind fun is => (match is with | [] => none | i :: r => some (.int (minI i r), false))
    | _ => none)
  | .int => (match ds with
    | [.int i] => some (.int i, false)
    | [.bl b] => some (.int (if b then 1 else 0), false)
    | _ => none)
  | .tuple => (match ds with
    | [.tup xs] => some (.tup xs, false)
    | [.lst xs] => some (.tup xs, false)
    | _ => none)
  | .list => (match ds with
    | [.tup xs] => some (.lst xs, true)
    | [.lst xs] => some (.lst xs, true)
    | _ => none)
  | .all => (match ds with
    | [d] => (seqD d).bind fun xs => (boolsOf xs).map fun bs => (.bl (bs.all id), false)
    | _ => none)
  | .any => (match ds with
    | [d] => (seqD d).bind fun xs => (boolsOf xs).map fun bs => (.bl (bs.any id), false)
    | _ => none)
  | .sum => (match ds with
    | [d] => (seqD d).bind fun xs => (intsOf xs).map fun is => (.int is.sum, false)
    | _ => none)
  | .sorted => (match ds with
    | [d] => (seqD d).bind fun xs => if comparable xs then some (.lst (xs.mergeSort leD), true) else none
    | _ => none)
  | .sortedr => (match ds with
    | [d] => (seqD d).bind fun xs => if comparable xs then some (.lst (xs.mergeSort geD), true) else none
    | _ => none)
  | .repr => (match ds with
    | [d] => if reprOk d then some (.str (reprD d), false) else none
    | _ => none)

/-- the module: its defs are called by call, its constants, the classes of errors with those above them -/
structure Gz where
  glob : Str → Option D
  par : Str → Option (List Str)
  /-- the module's classes of errors: each with those that stand over it, itself too -/
  cls : Str → Option (List Str)
/-- the built-in type of a value -/
def tyD : D → Option String
  | .non => some "NoneType"
  | .bl _ => some "bool"
  | .int _ => some "int"
  | .str _ => some "str"
  | .tup _ => some "tuple"
  | .lst _ => some "list"
  | _ => none
def tyOk (a b : String) : Option Bool :=
  if b = "int" then some (a == "int" || a == "bool")
  else if b = "bool" ∨ b = "str" ∨ b = "tuple" ∨ b = "list" ∨ b = "dict" then some (a == b)
  else none
def isiD (g : Gz) (d : D) (t : String) : Option Bool :=
  match d with
  | d => (tyD d).bind fun a => tyOk a t

/-- isinstance(d, c), c a class of errors of the module -/
def iscD (g : Gz) (d : D) (c : Str) : Option Bool :=
  match g.cls c with
  | none => none
  | some _ => match d with
    | .exc e _ => (g.cls e).map fun ps => decide (c ∈ ps)
    | d => (tyD d).map fun _ => false
/-- an error's value -/
def excV : D → Option D
  | .exc _ v => some v
  | _ => none
/-! PyA -/
inductive Tg where
  | one (i : Nat)
  | many (is : List Nat)
  | deep (ts : List (Nat ⊕ List Nat))
  deriving DecidableEq
inductive E where
  | var (i : Nat) | con (d : D) | glo (x : Str)
  | bin (op : Operator) (a b : E) | neg (a : E) | not (a : E)
  | and (a b : E) | or (a b : E) | ife (c a b : E)
  | cmp (op : CmpOp) (a b : E) | chn (op op' : CmpOp) (a b c : E)
  | tup (es : List E) | lst (es : List E)
  | idx (a i : E) | slc (l h : Bool) (a : E) (es : List E) | rev (a : E)
  | call (f : Str) (es : List E) (ord : List Nat) | cloc (i : Nat) (es : List E)
  | blt (b : Bt) (es : List E)
  | isi (a : E) (t : String)
  | isc (a : E) (c : Str) | fld (a : E)
  | bad
  | rng (es : List E) | zip (a b : E) | enm (a : E)
  | cmpr (elt : E) (tg : Tg) (it : E) (conds : List E) (own : List Nat)
  deriving Inhabited
inductive S where
  | set (i : Nat) (e : E)
  | cell (i : Nat) (e : E)
  | sets (is : List Nat) (e : E)
  | setd (ts : List (Nat ⊕ List Nat)) (e : E)
  | par (is : List Nat) (cs : List Bool) (es : List E)
  | aug (i : Nat) (op : Operator) (e : E)
  | sub (i : Nat) (k e : E)
  | app (i : Nat) (e : E)
  | ext (i : Nat) (e : E)
  | pop (i : Nat)
  | ex (e : E)
  | ite (c : E) (a b : List S)
  | whl (c : E) (b : List S)
  | for (tg : Tg) (it : E) (b : List S)
  | ret (e : E) | retn | brk | pass
  | rse (c : Str) (e : E)
  | trk (b : List S) (c : Str) (i j : Nat)
  | bad
  deriving Inhabited

/-! PyA -/
def bnd (r : Option R) (k : T → Mu → Option R) : Option R :=
  match r with
  | some (.ok t _ m) => k t m
  | some (.ex e m) => some (.ex e m)
  | none => none
def bndL (r : Option RL) (k : List T → Mu → Option R) : Option R :=
  match r with
  | some (.ok ts m) => k ts m
  | some (.ex e m) => some (.ex e m)
  | none => none
/-- .. where no error is raised -/
def okL (r : Option RL) (k : List T → Mu → Option R) : Option R :=
  match r with
  | some (.ok ts m) => k ts m
  | _ => none
/-- values that are no cells -/
def valsT : List T → Option (List D)
  | [] => some []
  | .val d :: r => (valsT r).map (d :: ·)
  | .loc _ :: _ => none
/-- the values as they stand now -/
def rds (m : Mu) : List T → Option (List D)
  | [] => some []
  | t :: r => (rd m t).bind fun d => (rds m r).map (d :: ·)
/-- .. taken -/
def tks : Mu → List T → Option (List D × Mu)
  | m, [] => some ([], m)
  | m, t :: r => (tk m t).bind fun p => (tks p.2 r).map fun q => (p.1 :: q.1, q.2)
def giv (x : Option (D × Bool)) (m : Mu) : Option R := x.map fun p => .ok (.val p.1) p.2 m
def vl (d : D) (m : Mu) : Option R := some (.ok (.val d) false m)
/-- what a for or a comprehension goes through, and the cell in which it stands -/
inductive RI where
  | ok (ds : List D) (at_ : Option Nat) (m : Mu)
  | ex (e : D) (m : Mu)
def iterOf (m : Mu) (t : T) : Option RI :=
  match t with
  | .val (.tup xs) => some (.ok xs none m)
  | .val (.lst xs) => some (.ok xs none m)
  | .loc n => (match m[n]? with
    | some (.lst xs) => some (.ok xs (some n) m)
    | some (.frz (.lst xs)) => some (.ok xs none m)
    | _ => none)
  | _ => none
def rngL (lo : Int) : Nat → List D
  | 0 => []
  | n + 1 => .int lo :: rngL (lo + 1) n
def rngOf (ds : List D) : Option (List D) :=
  match ds with
  | [.int n] => if decide (-(2 ^ 62) < n) && decide (n < 2 ^ 62) then some (rngL 0 n.toNat) else none
  | [.int a, .int b] => if decide (-(2 ^ 61) < a) && decide (a < 2 ^ 61) && decide (-(2 ^ 61) < b) && decide (b < 2 ^ 61) then some (rngL a (b - a).toNat) else none
  | _ => none
def zipD : List D → List D → List D
  | x :: xs, y :: ys => .tup [x, y] :: zipD xs ys
  | _, _ => []
def enmD (k : Int) : List D → List D
  | [] => []
  | x :: xs => .tup [.int k, x] :: enmD (k + 1) xs
def bindTs : List (Nat ⊕ List Nat) → List D → Rho → Option Rho
  | [], [], r => some r
  | .inl i :: ts, x :: xs, r => bindTs ts xs (r.set i (some (.val x)))
  | .inr is :: ts, x :: xs, r => (match x with
    | .tup ys => if ys.length = is.length then bindTs ts xs ((is.zip ys).foldl (fun r p => r.set p.1 (some (.val p.2))) r) else none
    | _ => none)
  | _, _, _ => none
/-- a target takes a value -/
def bindT (tg : Tg) (d : D) (r : Rho) : Option Rho :=
  match tg with
  | .one i => some (r.set i (some (.val d)))
  | .many is => (match d with
    | .tup xs => if xs.length = is.length then some ((is.zip xs).foldl (fun r p => r.set p.1 (some (.val p.2))) r) else none
    | _ => none)
  | .deep ts => (match d with
    | .tup xs => bindTs ts xs r
    | _ => none)
def wipeR (r : Rho) : List Nat → Rho
  | [] => r
  | i :: is => (wipeR r is).set i none
/-- the cell that is gone through stands as it stood -/
def still (a : Option Nat) (m m' : Mu) : Bool :=
  match a with
  | none => true
  | some n => decide (m'[n]? = m[n]?)
def cmpL (tg : Tg) (conds : Rho → Mu → Option R) (elt : Rho → Mu → Option R) (a : Option Nat) (r : Rho) : List D → List D → Mu → Option R
  | [], acc, m => some (.ok (.val (.lst acc)) true m)
  | d :: ds, acc, m => (bindT tg d r).bind fun r1 => bnd (conds r1 m) fun t m1 => (rd m1 t).bind fun c => (truth c).bind fun b =>
      if b = true then bnd (elt r1 m1) fun t2 m2 => (match t2 with
        | .val e => if still a m m2 && decide (acc.length < line) then cmpL tg conds elt a r ds (acc ++ [e]) m2 else none
        | .loc _ => none)
      else if still a m m1 then cmpL tg conds elt a r ds acc m1 else none
/-- the limit of a rising row -/
noncomputable def lim {α : Type} (f : Nat → Option α) : Option α :=
  open Classical in if h : ∃ n, (f n).isSome then f (Classical.choose h) else none
def whN (test : Rho → Mu → Option R) (body : Rho → Mu → Option RS) : Nat → Rho → Mu → Option RS
  | 0, _, _ => none
  | n + 1, r, m => match test r m with
    | none => none
    | some (.ex e m1) => some (.ex e r m1)
    | some (.ok t _ m1) => (rd m1 t).bind fun d => (truth d).bind fun b =>
      if b = true then match body r m1 with
        | none => none
        | some (.nx r2 m2) => whN test body n r2 m2
        | some (.bk r2 m2) => some (.nx r2 m2)
        | some (.rt t f m2) => some (.rt t f m2)
        | some (.ex e r2 m2) => some (.ex e r2 m2)
      else some (.nx r m1)
def forL (tg : Tg) (body : Rho → Mu → Option RS) (a : Option Nat) : List D → Rho → Mu → Option RS
  | [], r, m => some (.nx r m)
  | d :: ds, r, m => (bindT tg d r).bind fun r1 => match body r1 m with
    | none => none
    | some (.nx r2 m2) => if still a m m2 then forL tg body a ds r2 m2 else none
    | some (.bk r2 m2) => some (.nx r2 m2)
    | some (.rt t f m2) => some (.rt t f m2)
    | some (.ex e r2 m2) => some (.ex e r2 m2)
/-- the callee: a def's name, the arguments, the cells -/
abbrev Call := Str → List T → Mu → Option R
structure Cz where
  g : Gz
  call : Call
def pick {α : Type} (xs : List α) : List Nat → Option (List α)
  | [] => some []
  | i :: is => (xs[i]?).bind fun x => (pick xs is).map (x :: ·)
def getV (r : Rho) (i : Nat) : Option T := (r[i]?).bind id

mutual
def ev (c : Cz) : E → Rho → Mu → Option R
  | .var i, r, m => (getV r i).map fun t => .ok t false m
  | .con d, _, m => vl d m
  | .glo x, _, m => (c.g.glob x).bind fun d => vl d m
  | .bin op a b, r, m => bnd (ev c a r m) fun x m1 => bnd (ev c b r m1) fun y m2 => (rd m2 x).bind fun u => (rd m2 y).bind fun v => giv (bop op u v) m2
  | .neg a, r, m => bnd (ev c a r m) fun x m1 => (rd m1 x).bind fun u => (negD u).bind fun v => vl v m1
  | .not a, r, m => bnd (ev c a r m) fun x m1 => (rd m1 x).bind fun u => (truth u).bind fun b => vl (.bl (!b)) m1
  | .and a b, r, m => bnd (ev c a r m) fun x m1 => (rd m1 x).bind fun u => (truth u).bind fun k => if k = true then ev c b r m1 else some (.ok x false m1)
  | .or a b, r, m => bnd (ev c a r m) fun x m1 => (rd m1 x).bind fun u => (truth u).bind fun k => if k = true then some (.ok x false m1) else ev c b r m1
  | .ife t a b, r, m => bnd (ev c t r m) fun x m1 => (rd m1 x).bind fun u => (truth u).bind fun k => if k = true then ev c a r m1 else ev c b r m1
  | .cmp op a b, r, m => bnd (ev c a r m) fun x m1 => bnd (ev c b r m1) fun y m2 => (rd m2 x).bind fun u => (rd m2 y).bind fun v => (cop op u v).bind fun k => vl (.bl k) m2
  | .chn op op' a b e, r, m => bnd (ev c a r m) fun x m1 => bnd (ev c b r m1) fun y m2 => (rd m2 x).bind fun u => (rd m2 y).bind fun v => (cop op u v).bind fun k =>
      if k = true then bnd (ev c e r m2) fun z m3 => (rd m3 y).bind fun v => (rd m3 z).bind fun w => (cop op' v w).bind fun k => vl (.bl k) m3 else vl (.bl false) m2
  | .tup es, r, m => bndL (evL c es r m) fun ts m1 => (tks m1 ts).bind fun p => if p.1.length ≤ line then vl (.tup p.1) p.2 else none
  | .lst es, r, m => bndL (evL c es r m) fun ts m1 => (tks m1 ts).bind fun p => if p.1.length ≤ line then some (.ok (.val (.lst p.1)) true p.2) else none
  | .idx a i, r, m => bnd (ev c a r m) fun x m1 => bnd (ev c i r m1) fun y m2 => (rd m2 x).bind fun u => (rd m2 y).bind fun v => (idxD u v).bind fun d => vl d m2
  | .slc l h a es, r, m => bnd (ev c a r m) fun x m1 => okL (evL c es r m1) fun ts m2 => (rd m2 x).bind fun u => (valsT ts).bind fun ds => giv (slcB l h u ds) m2
  | .rev a, r, m => bnd (ev c a r m) fun x m1 => (rd m1 x).bind fun u => giv (revD u) m1
  | .call f es ord, r, m => bndL (evL c es r m) fun ts m1 => (pick ts ord).bind fun us => c.call f us m1
  | .cloc i es, r, m => (getV r i).bind fun t => (match t with
    | .val (.fn f) => bndL (evL c es r m) fun ts m1 => c.call f ts m1
    | _ => none)
  | .blt b es, r, m => bndL (evL c es r m) fun ts m1 => (rds m1 ts).bind fun ds => giv (blt b ds) m1
  | .isi a t, r, m => bnd (ev c a r m) fun x m1 => (rd m1 x).bind fun u => (isiD c.g u t).bind fun k => vl (.bl k) m1
  | .isc a t, r, m => bnd (ev c a r m) fun x m1 => (rd m1 x).bind fun u => (iscD c.g u t).bind fun k => vl (.bl k) m1
  | .fld a, r, m => bnd (ev c a r m) fun x m1 => (rd m1 x).bind fun u => (excV u).bind fun d => vl d m1
  | .bad, _, _ => none
  | .rng _, _, _ => none
  | .zip _ _, _, _ => none
  | .enm _, _, _ => none
  | .cmpr elt tg it conds own, r, m => match evI c it r m with
    | none => none
    | some (.ex e m1) => some (.ex e m1)
    | some (.ok ds a m1) => match cmpL tg (fun r m => evC c conds r m) (fun r m => ev c elt r m) a (wipeR r own) ds [] m1 with
      | some (.ex _ _) => none
      | x => x
def evL (c : Cz) : List E → Rho → Mu → Option RL
  | [], _, m => some (.ok [] m)
  | e :: es, r, m => match ev c e r m with
    | none => none
    | some (.ex e m1) => some (.ex e m1)
    | some (.ok t _ m1) => match evL c es r m1 with
      | none => none
      | some (.ex e m2) => some (.ex e m2)
      | some (.ok ts m2) => some (.ok (t :: ts) m2)
/-- no test, or one -/
def evC (c : Cz) : List E → Rho → Mu → Option R
  | [], _, m => vl (.bl true) m
  | [e], r, m => ev c e r m
  | _ :: _ :: _, _, _ => none
def evI (c : Cz) : E → Rho → Mu → Option RI
  | .rng es, r, m => match evL c es r m with
    | none => none
    | some (.ex e m1) => some (.ex e m1)
    | some (.ok ts m1) => (rds m1 ts).bind fun ds => (rngOf ds).map fun xs => .ok xs none m1
  | .zip a b, r, m => match ev c a r m with
    | none => none
    | some (.ex e m1) => some (.ex e m1)
    | some (.ok x _ m1) => match ev c b r m1 with
      | none => none
      | some (.ex e m2) => some (.ex e m2)
      | some (.ok y _ m2) => (match x, y with
        | .val (.tup xs), .val (.tup ys) => some (.ok (zipD xs ys) none m2)
        | .val (.lst xs), .val (.lst ys) => some (.ok (zipD xs ys) none m2)
        | _, _ => none)
  | .enm a, r, m => match ev c a r m with
    | none => none
    | some (.ex e m1) => some (.ex e m1)
    | some (.ok x _ m1) => (match x with
        | .val (.lst xs) => some (.ok (enmD 0 xs) none m1)
        | _ => none)
  | e, r, m => match ev c e r m with
    | none => none
    | some (.ex e m1) => some (.ex e m1)
    | some (.ok x _ m1) => iterOf m1 x
end

/-- a name takes a value; cell: a new object becomes one that may change. n: the cells that stood ahead of the frame -/
def putV (n : Nat) (i : Nat) (t : T) (r : Rho) (m : Mu) : Option (Rho × Mu) := if i < r.length then some (r.set i (some t), m) else none
def others (r : Rho) (i k : Nat) : Bool := (r.zipIdx).all fun p => p.2 == i || p.1 != some (.loc k)
def obOf : D → Option Ob
  | .lst xs => some (.lst xs)
  | .dic ks vs => some (.dic ks vs)
  | .st xs => some (.st xs)
  | _ => none
def putC (n : Nat) (i : Nat) (t : T) (fr : Bool) (r : Rho) (m : Mu) : Option (Rho × Mu) :=
  if i < r.length then
    match t with
    | .loc k => some (r.set i (some (.loc k)), m)
    | .val d => match obOf d with
      | none => some (r.set i (some (.val d)), m)
      | some o => if fr = true then
          match getV r i with
          | some (.loc k) => if decide (n ≤ k) && decide (k < m.length) && others r i k then some (r, m.set k o) else some (r.set i (some (.loc m.length)), m ++ [o])
          | _ => some (r.set i (some (.loc m.length)), m ++ [o])
        else none
  else none
/-- always a new cell -/
def putN (i : Nat) (t : T) (fr : Bool) (r : Rho) (m : Mu) : Option (Rho × Mu) :=
  if i < r.length then
    match t with
    | .loc k => some (r.set i (some (.loc k)), m)
    | .val d => match obOf d with
      | none => some (r.set i (some (.val d)), m)
      | some o => if fr = true then some (r.set i (some (.loc m.length)), m ++ [o]) else none
  else none
def putP : List Nat → List Bool → List (T × Bool) → Rho → Mu → Option (Rho × Mu)
  | [], [], [], r, m => some (r, m)
  | i :: is, c :: cs, t :: ts, r, m => (if c = true then putN i t.1 t.2 r m else putV 0 i t.1 r m).bind fun p => putP is cs ts p.1 p.2
  | _, _, _, _, _ => none
inductive RF where
  | ok (ts : List (T × Bool)) (m : Mu)
  | ex (e : D) (m : Mu)
/-- values with their newness -/
def evF (c : Cz) : List E → Rho → Mu → Option RF
  | [], _, m => some (.ok [] m)
  | e :: es, r, m => match ev c e r m with
    | none => none
    | some (.ex e m1) => some (.ex e m1)
    | some (.ok t f m1) => match evF c es r m1 with
      | none => none
      | some (.ex e m2) => some (.ex e m2)
      | some (.ok ts m2) => some (.ok ((t, f) :: ts) m2)
def nxt (x : Option (Rho × Mu)) : Option RS := x.map fun p => .nx p.1 p.2
def bndS (x : Option R) (r : Rho) (k : T → Bool → Mu → Option RS) : Option RS :=
  match x with
  | none => none
  | some (.ex e m) => some (.ex e r m)
  | some (.ok t f m) => k t f m
/-- the cell, a list, that a name holds -/
def cellAt (r : Rho) (m : Mu) (i : Nat) : Option Nat :=
  match getV r i with
  | some (.loc k) => (match m[k]? with
    | some (.lst _) => some k
    | _ => none)
  | _ => none
/-- a cell that is gone through keeps its place -/
def lock (n : Nat) (a : Option Nat) : Nat :=
  match a with
  | none => n
  | some k => max n (k + 1)
def augI (op : Operator) (u v : D) : Option Int :=
  match u, v with
  | .int a, .int b => (match op with
    | .Add => some (a + b)
    | .Sub => some (a - b)
    | _ => none)
  | _, _ => none
def setL (xs : List D) (i : D) (v : D) : Option (List D) :=
  match i with
  | .int k => (ixN xs.length k).map fun j => xs.set j v
  | _ => none

mutual
noncomputable def exec (c : Cz) (n : Nat) : S → Rho → Mu → Option RS
  | .set i e, r, m => bndS (ev c e r m) r fun t _ m1 => nxt (putV n i t r m1)
  | .cell i e, r, m => bndS (ev c e r m) r fun t f m1 => nxt (putC n i t f r m1)
  | .sets is e, r, m => bndS (ev c e r m) r fun t _ m1 => (match t with
    | .val (.tup xs) => if xs.length = is.length then some (.nx ((is.zip xs).foldl (fun r p => r.set p.1 (some (.val p.2))) r) m1) else none
    | _ => none)
  | .setd ts e, r, m => bndS (ev c e r m) r fun t _ m1 => (match t with
    | .val d => (bindT (.deep ts) d r).map fun r1 => .nx r1 m1
    | _ => none)
  | .par is cs es, r, m => (match evF c es r m with
    | none => none
    | some (.ex e m1) => some (.ex e r m1)
    | some (.ok ts m1) => nxt (putP is cs ts r m1))
  | .aug i op e, r, m => (getV r i).bind fun t0 => bndS (ev c e r m) r fun t _ m1 => (match t0, t with
    | .val u, .val v => (augI op u v).bind fun z => nxt (putV n i (.val (.int z)) r m1)
    | _, _ => none)
  | .sub i k e, r, m => (cellAt r m i).bind fun q => bndS (ev c e r m) r fun t _ m1 => (match t with
    | .val v => bndS (ev c k r m1) r fun t2 _ m2 => (match t2, m2[q]? with
      | .val j, some (.lst xs) => (setL xs j v).map fun ys => .nx r (m2.set q (.lst ys))
      | _, _ => none)
    | _ => none)
  | .app i e, r, m => (cellAt r m i).bind fun q => bndS (ev c e r m) r fun t _ m1 => (match t, m1[q]? with
    | .val v, some (.lst xs) => if xs.length < line then some (.nx r (m1.set q (.lst (xs ++ [v])))) else none
    | _, _ => none)
  | .ext i e, r, m => (cellAt r m i).bind fun q => bndS (ev c e r m) r fun t f m1 => (match f, t, m1[q]? with
    | true, .val (.lst ys), some (.lst xs) => if xs.length + ys.length ≤ line then some (.nx r (m1.set q (.lst (xs ++ ys)))) else none
    | _, _, _ => none)
  | .pop i, r, m => (cellAt r m i).bind fun q => (match m[q]? with
    | some (.lst xs) => if xs = [] then none else some (.nx r (m.set q (.lst xs.dropLast)))
    | _ => none)
  | .ex e, r, m => bndS (ev c e r m) r fun _ _ m1 => some (.nx r m1)
  | .ite t a b, r, m => bndS (ev c t r m) r fun x _ m1 => (rd m1 x).bind fun d => (truth d).bind fun k => if k = true then execs c n a r m1 else execs c n b r m1
  | .whl t b, r, m => lim fun k => whN (fun r m => ev c t r m) (fun r m => execs c n b r m) k r m
  | .for tg it b, r, m => match evI c it r m with
    | none => none
    | some (.ex e m1) => some (.ex e r m1)
    | some (.ok ds a m1) => forL tg (fun r m => execs c (lock n a) b r m) a ds r m1
  | .ret e, r, m => bndS (ev c e r m) r fun t f m1 => some (.rt t f m1)
  | .retn, r, m => some (.rt (.val .non) false m)
  | .brk, r, m => some (.bk r m)
  | .pass, r, m => some (.nx r m)
  | .rse cl e, r, m => bndS (ev c e r m) r fun t _ m1 => (tk m1 t).map fun p => .ex (.exc cl p.1) r p.2
  | .trk b cl i j, r, m => match execs c n b r m with
    | some (.ex e r1 m1) => (match e with
      | .exc e' v => if ((c.g.cls cl).isSome && ((c.g.cls e').getD []).contains cl && decide (i < r1.length) && decide (j < r1.length)) = true then some (.nx ((r1.set j (some (.val (.exc e' v)))).set i none) m1) else none
      | _ => none)
    | x => x
  | .bad, _, _ => none
noncomputable def execs (c : Cz) (n : Nat) : List S → Rho → Mu → Option RS
  | [], r, m => some (.nx r m)
  | s :: ss, r, m => match exec c n s r m with
    | some (.nx r1 m1) => execs c n ss r1 m1
    | x => x
end

/-- a def: its parameters, the number of its names, its body -/
structure Fd where
  ps : List Str
  nv : Nat
  body : List S
structure Pr where
  fd : Str → Option Fd
  glob : Str → Option D
  cls : Str → Option (List Str) := fun _ => none
def Pr.g (P : Pr) : Gz := ⟨P.glob, fun f => (P.fd f).map (·.ps), P.cls⟩
def fin (n : Nat) : Option RS → Option R
  | none => none
  | some (.nx _ m) => some (.ok (.val .non) false (m.take n))
  | some (.bk _ _) => none
  | some (.ex e _ m) => some (.ex e (m.take n))
  | some (.rt (.val d) f m) => some (.ok (.val d) f (m.take n))
  | some (.rt (.loc k) _ m) => if k < n then some (.ok (.loc k) false (m.take n)) else match m[k]? with
    | some (.frz d) => some (.ok (.val d) false (m.take n))
    | some o => some (.ok (.val o.d) true (m.take n))
    | none => none
noncomputable def callN (P : Pr) : Nat → Call
  | 0 => fun _ _ _ => none
  | k + 1 => fun f ts m => match P.fd f with
    | none => none
    | some fd => if ts.length = fd.ps.length then fin m.length (execs ⟨P.g, callN P k⟩ m.length fd.body (ts.map some ++ List.replicate (fd.nv - fd.ps.length) none) m) else none
end PY

set_option linter.all false
/-! MaA -/
namespace Ma
open PY
inductive Tr where
  | nil | cons (h t : Tr)
  deriving DecidableEq, Inhabited
namespace Tr
def kids : Tr → List Tr
  | nil => []
  | cons h t => h :: kids t
def ofL : List Tr → Tr
  | [] => nil
  | x :: r => cons x (ofL r)
@[simp] theorem kids_ofL (l : List Tr) : kids (ofL l) = l := by induction l <;> simp_all [kids, ofL]
@[simp] theorem ofL_kids (a : Tr) : ofL (kids a) = a := by induction a <;> simp_all [kids, ofL]
theorem ofL_inj {a b : List Tr} (h : ofL a = ofL b) : a = b := by have := congrArg kids h; simpa using this
def cmp : Tr → Tr → Ordering
  | nil, nil => .eq
  | nil, cons _ _ => .lt
  | cons _ _, nil => .gt
  | cons a b, cons c d => (cmp a c).then (cmp b d)
theorem cmp_self (a : Tr) : cmp a a = .eq := by induction a <;> simp_all [cmp]
theorem cmp_eq : ∀ {a b : Tr}, cmp a b = .eq → a = b
  | nil, nil, _ => rfl
  | cons a b, cons c d, h => by
    rw [cmp] at h
    cases e : cmp a c <;> rw [e] at h
    · cases h
    · rw [cmp_eq e, cmp_eq (a := b) (b := d) h]
    · cases h
theorem cmp_swap : ∀ (a b : Tr), (cmp a b).swap = cmp b a
  | nil, nil => rfl
  | nil, cons _ _ => rfl
  | cons _ _, nil => rfl
  | cons a b, cons c d => by
    rw [cmp, cmp, ← cmp_swap a c, ← cmp_swap b d]
    cases cmp a c <;> rfl
theorem cmp_trans : ∀ {a b c : Tr}, cmp a b ≠ .gt → cmp b c ≠ .gt → cmp a c ≠ .gt ∧ (cmp a c = .eq → cmp a b = .eq ∧ cmp b c = .eq)
  | nil, nil, nil, _, _ => by simp [cmp]
  | nil, nil, cons _ _, _, _ => by simp [cmp]
  | nil, cons _ _, nil, _, h => by simp [cmp] at h
  | nil, cons _ _, cons _ _, _, _ => by simp [cmp]
  | cons _ _, nil, _, h, _ => by simp [cmp] at h
  | cons _ _, cons _ _, nil, _, h => by simp [cmp] at h
  | cons a b, cons c d, cons e f, h, g => by
    simp only [cmp] at h g ⊢
    cases h1 : cmp a c with
    | gt => rw [h1] at h; exact absurd rfl h
    | lt =>
      cases h2 : cmp c e with
      | gt => rw [h2] at g; exact absurd rfl g
      | lt =>
        have t := cmp_trans (a := a) (b := c) (c := e) (by simp [h1]) (by simp [h2])
        cases h3 : cmp a e with
        | lt => simp
        | eq => have := (t.2 h3).1; rw [h1] at this; cases this
        | gt => exact absurd h3 t.1
      | eq => rw [← cmp_eq h2, h1]; simp
    | eq =>
      rw [h1] at h
      have e1 := cmp_eq h1; subst e1
      cases h2 : cmp a e with
      | gt => rw [h2] at g; exact absurd rfl g
      | lt => simp
      | eq =>
        rw [h2] at g
        exact cmp_trans (a := b) (b := d) (c := f) h g
def le (a b : Tr) : Bool := cmp a b != .gt
def lt (a b : Tr) : Bool := cmp a b == .lt
theorem le_refl (a : Tr) : le a a = true := by simp [le, cmp_self]
theorem le_trans {a b c : Tr} (h : le a b = true) (g : le b c = true) : le a c = true := by
  simp only [le, bne_iff_ne] at *; exact (cmp_trans h g).1
theorem le_total (a b : Tr) : le a b = true ∨ le b a = true := by
  simp only [le, bne_iff_ne]; rw [← cmp_swap a b]; cases cmp a b <;> simp
theorem le_antisymm {a b : Tr} (h : le a b = true) (g : le b a = true) : a = b := by
  simp only [le, bne_iff_ne] at *; rw [← cmp_swap a b] at g
  cases e : cmp a b <;> simp_all; exact cmp_eq e
theorem nil_le (a : Tr) : le nil a = true := by cases a <;> rfl
theorem lt_not_le (a b : Tr) : lt a b = !le b a := by
  simp only [lt, le]; rw [← cmp_swap a b]; cases cmp a b <;> rfl
end Tr
end Ma

set_option linter.all false
/-! MaB -/
namespace Ma
open Tr
/-- the sum: what of the one is not below the other's first, then the other -/
def plus (a b : List Tr) : List Tr :=
  match b with
  | [] => a
  | y :: _ => a.filter (fun x => le y x) ++ b
theorem plus_nil (a : List Tr) : plus a [] = a := rfl
theorem nil_plus (b : List Tr) : plus [] b = b := by cases b <;> simp [plus]
/-- it never rises -/
abbrev desc (a : List Tr) : Prop := a.Pairwise (fun x y => le y x = true)
/-- the sum from the left of single trees -/
def foldP (a : List Tr) (xs : List Tr) : List Tr := xs.foldl (fun f x => plus f [x]) a
theorem plus_assoc (a : List Tr) {b : List Tr} (c : List Tr) (hb : desc b) : plus (plus a b) c = plus a (plus b c) := by
  cases c with
  | nil => rfl
  | cons z c =>
    cases b with
    | nil => rw [plus_nil, nil_plus]
    | cons y b =>
      simp only [plus, List.filter_append, List.filter_filter]
      by_cases h : le z y = true
      · rw [List.filter_cons_of_pos (by simpa using h)]
        simp only [List.cons_append, List.append_assoc]
        congr 1
        apply List.filter_congr
        intro x _
        cases e : le y x with
        | false => simp
        | true => simp [le_trans h e]
      · have h2 : le y z = true := (le_total y z).resolve_right h
        have e1 : a.filter (fun x => le z x && le y x) = a.filter (fun x => le z x) := by
          apply List.filter_congr
          intro x _
          cases e : le z x with
          | false => simp
          | true => simp [le_trans h2 e]
        have e2 : (y :: b).filter (fun x => le z x) = [] := by
          rw [List.filter_eq_nil_iff]
          intro x hx g
          rcases List.mem_cons.1 hx with rfl | hx
          · exact h g
          · exact h (le_trans g ((List.pairwise_cons.1 hb).1 x hx))
        rw [e1, e2]; simp
theorem desc_plus {a b : List Tr} (ha : desc a) (hb : desc b) : desc (plus a b) := by
  cases b with
  | nil => exact ha
  | cons y b =>
    refine List.pairwise_append.2 ⟨ha.sublist List.filter_sublist, hb, ?_⟩
    intro x hx z hz
    have h1 : le y x = true := by simpa using (List.mem_filter.1 hx).2
    rcases List.mem_cons.1 hz with rfl | hz
    · exact h1
    · exact le_trans ((List.pairwise_cons.1 hb).1 z hz) h1
theorem desc_one (x : Tr) : desc [x] := List.pairwise_singleton _ _
theorem desc_foldP : ∀ (xs : List Tr) {a : List Tr}, desc a → desc (foldP a xs)
  | [], _, h => h
  | x :: xs, _, h => desc_foldP xs (desc_plus h (desc_one x))
theorem foldP_append (a xs ys : List Tr) : foldP a (xs ++ ys) = foldP (foldP a xs) ys := by simp [foldP, List.foldl_append]
/-- folded from a is a plus what is folded from nothing -/
theorem foldP_plus : ∀ (xs a : List Tr) {b : List Tr}, desc b → foldP (plus a b) xs = plus a (foldP b xs)
  | [], a, b, _ => rfl
  | x :: xs, a, b, h => by
    show foldP (plus (plus a b) [x]) xs = _
    rw [plus_assoc a [x] h, foldP_plus xs a (desc_plus h (desc_one x))]; rfl
theorem foldP_from (a xs : List Tr) : foldP a xs = plus a (foldP [] xs) := by
  have := foldP_plus xs a (b := []) .nil; rwa [plus_nil] at this
theorem foldP_two (xs ys : List Tr) : foldP [] (xs ++ ys) = plus (foldP [] xs) (foldP [] ys) := by
  rw [foldP_append, foldP_from]
theorem foldP_desc : ∀ (xs a : List Tr), desc (a ++ xs) → foldP a xs = a ++ xs
  | [], a, _ => by simp [foldP]
  | x :: xs, a, h => by
    show foldP (plus a [x]) xs = _
    have e : plus a [x] = a ++ [x] := by
      simp only [plus]; congr 1
      rw [List.filter_eq_self]
      intro y hy
      exact (List.pairwise_append.1 h).2.2 y hy x (.head _)
    rw [e, foldP_desc xs (a ++ [x]) (by simpa using h)]; simp
end Ma

set_option linter.all false
/-! MaC -/
namespace Ma
open Tr
/-- the pieces between zeros; h: what stands before, of the first piece -/
def cutA (h : List Nat) : List Nat → List (List Nat)
  | [] => [h]
  | 0 :: w => h :: cutA [] w
  | (k + 1) :: w => cutA (h ++ [k + 1]) w
abbrev cut (w : List Nat) : List (List Nat) := cutA [] w
abbrev low (w : List Nat) : List Nat := w.map (· - 1)
abbrev up (w : List Nat) : List Nat := w.map (· + 1)
def zeros (w : List Nat) : Bool := w.all (· == 0)
def ordF : Nat → List Nat → List Tr
  | 0, w => List.replicate w.length nil
  | n + 1, w => if zeros w then List.replicate w.length nil else foldP [] ((cut w).reverse.map fun p => ofL (ordF n (low p)))
def top (w : List Nat) : Nat := w.foldr max 0
theorem top_le {w : List Nat} {n : Nat} : top w ≤ n ↔ ∀ x ∈ w, x ≤ n := by
  induction w with
  | nil => simp [top]
  | cons a w ih => simp only [top, List.foldr_cons, List.mem_cons, forall_eq_or_imp] at *; rw [Nat.max_le, ih]
def ord (w : List Nat) : List Tr := ordF (top w) w
theorem cutA_append (h w v : List Nat) : cutA h (w ++ 0 :: v) = cutA h w ++ cut v := by
  induction w generalizing h with
  | nil => rfl
  | cons a w ih => cases a <;> simp [cutA, ih]
theorem cutA_pos {h w : List Nat} (hw : ∀ x ∈ w, 0 < x) : cutA h w = [h ++ w] := by
  induction w generalizing h with
  | nil => simp [cutA]
  | cons a w ih =>
    cases a with
    | zero => exact absurd (hw 0 (.head _)) (by decide)
    | succ k => rw [cutA, ih (fun x hx => hw x (.tail _ hx))]; simp
/-- the letters of pieces are above zero and come from the worm -/
theorem cutA_mem {h w p : List Nat} (hp : p ∈ cutA h w) : ∀ x ∈ p, x ∈ h ∨ (x ∈ w ∧ 0 < x) := by
  induction w generalizing h with
  | nil => simp only [cutA, List.mem_singleton] at hp; subst hp; exact fun x hx => .inl hx
  | cons a w ih =>
    cases a with
    | zero =>
      rw [cutA] at hp
      rcases List.mem_cons.1 hp with rfl | hp
      · exact fun x hx => .inl hx
      · intro x hx
        rcases ih hp x hx with g | g
        · cases g
        · exact .inr ⟨.tail _ g.1, g.2⟩
    | succ k =>
      rw [cutA] at hp
      intro x hx
      rcases ih hp x hx with g | g
      · rcases List.mem_append.1 g with g | g
        · exact .inl g
        · simp only [List.mem_singleton] at g; subst g; exact .inr ⟨.head _, Nat.succ_pos _⟩
      · exact .inr ⟨.tail _ g.1, g.2⟩
theorem cut_mem {w p : List Nat} (hp : p ∈ cut w) : ∀ x ∈ p, x ∈ w ∧ 0 < x := by
  intro x hx; rcases cutA_mem hp x hx with g | g
  · cases g
  · exact g
theorem low_le {w p : List Nat} {n : Nat} (hw : ∀ x ∈ w, x ≤ n + 1) (hp : p ∈ cut w) : ∀ x ∈ low p, x ≤ n := by
  intro x hx
  obtain ⟨y, hy, rfl⟩ := List.mem_map.1 hx
  have := hw y (cut_mem hp y hy).1; show y - 1 ≤ n; omega
theorem zeros_of {w : List Nat} (h : ∀ x ∈ w, x ≤ 0) : zeros w = true := by
  simp only [zeros, List.all_eq_true, beq_iff_eq]; intro x hx; have := h x hx; omega
theorem ordF_zeros {w : List Nat} (h : zeros w = true) : ∀ n, ordF n w = List.replicate w.length nil
  | 0 => rfl
  | n + 1 => by rw [ordF, if_pos h]
theorem ordF_eq : ∀ (n m : Nat) {w : List Nat}, (∀ x ∈ w, x ≤ n) → (∀ x ∈ w, x ≤ m) → ordF n w = ordF m w
  | 0, m, w, h, _ => by rw [ordF_zeros (zeros_of h), ordF_zeros (zeros_of h)]
  | n, 0, w, _, h => by rw [ordF_zeros (zeros_of h), ordF_zeros (zeros_of h)]
  | n + 1, m + 1, w, h, g => by
    rw [ordF, ordF]
    split
    · rfl
    · congr 1
      apply List.map_congr_left
      intro p hp
      have hp := List.mem_reverse.1 hp
      rw [ordF_eq n m (low_le h hp) (low_le g hp)]
theorem ordF_ord {n : Nat} {w : List Nat} (h : ∀ x ∈ w, x ≤ n) : ordF n w = ord w := ordF_eq n (top w) h (top_le.1 (Nat.le_refl _))
/-- the order, one step -/
theorem ord_step {w : List Nat} : ord w = if zeros w then List.replicate w.length nil else foldP [] ((cut w).reverse.map fun p => ofL (ord (low p))) := by
  by_cases hz : zeros w = true
  · rw [if_pos hz]; exact ordF_zeros hz _
  · rw [if_neg hz, ← ordF_ord (n := top w + 1) (fun x hx => Nat.le_succ_of_le (top_le.1 (Nat.le_refl _) x hx)), ordF, if_neg hz]
    congr 1
    apply List.map_congr_left
    intro p hp
    have hp := List.mem_reverse.1 hp
    rw [ordF_ord (low_le (fun x hx => Nat.le_succ_of_le (top_le.1 (Nat.le_refl _) x hx)) hp)]
/-- the sum over the pieces, zeros or not -/
def whole (w : List Nat) : List Tr := foldP [] ((cut w).reverse.map fun p => ofL (ord (low p)))
theorem ord_whole {w : List Nat} (h : zeros w = false) : ord w = whole w := by rw [ord_step, h]; rfl
theorem whole_two (w v : List Nat) : whole (w ++ 0 :: v) = plus (whole v) (whole w) := by
  rw [whole, cut, cutA_append, List.reverse_append, List.map_append, foldP_two]; rfl
theorem desc_whole (w : List Nat) : desc (whole w) := desc_foldP _ .nil
theorem desc_ord (w : List Nat) : desc (ord w) := by
  rw [ord_step]; split
  · exact List.pairwise_replicate.2 (.inr (le_refl _))
  · exact desc_whole w
end Ma

set_option linter.all false
/-! MaD -/
namespace Ma
open Tr
/-- every row in it never rises -/
def nf : Tr → Prop
  | .nil => True
  | .cons h t => nf h ∧ nf t ∧ (match t with | .nil => True | .cons h' _ => le h' h = true)
theorem nf_cons_desc : ∀ {a : Tr}, nf a → desc (kids a) ∧ ∀ x ∈ kids a, nf x
  | .nil, _ => ⟨.nil, by intro x hx; cases hx⟩
  | .cons h t, g => by
    obtain ⟨g1, g2, g3⟩ := g
    obtain ⟨i1, i2⟩ := nf_cons_desc g2
    refine ⟨List.pairwise_cons.2 ⟨?_, i1⟩, ?_⟩
    · intro x hx
      cases t with
      | nil => cases hx
      | cons h' t' =>
        rcases List.mem_cons.1 hx with rfl | hx
        · exact g3
        · exact le_trans ((List.pairwise_cons.1 i1).1 x hx) g3
    · intro x hx
      rcases List.mem_cons.1 hx with rfl | hx
      · exact g1
      · exact i2 x hx
theorem nf_ofL : ∀ {l : List Tr}, desc l → (∀ x ∈ l, nf x) → nf (ofL l)
  | [], _, _ => trivial
  | x :: l, h, g => by
    refine ⟨g x (.head _), nf_ofL (List.pairwise_cons.1 h).2 (fun y hy => g y (.tail _ hy)), ?_⟩
    cases l with
    | nil => trivial
    | cons y l => exact (List.pairwise_cons.1 h).1 y (.head _)
theorem nf_iff {l : List Tr} : nf (ofL l) ↔ desc l ∧ ∀ x ∈ l, nf x :=
  ⟨fun h => by have := nf_cons_desc h; simpa using this, fun h => nf_ofL h.1 h.2⟩
theorem plus_mem {a b : List Tr} : ∀ x ∈ plus a b, x ∈ a ∨ x ∈ b := by
  cases b with
  | nil => exact fun x hx => .inl hx
  | cons y b =>
    intro x hx
    rcases List.mem_append.1 hx with h | h
    · exact .inl (List.mem_filter.1 h).1
    · exact .inr h
theorem foldP_mem : ∀ (xs a : List Tr), ∀ x ∈ foldP a xs, x ∈ a ∨ x ∈ xs
  | [], a, x, hx => .inl hx
  | y :: xs, a, x, hx => by
    rcases foldP_mem xs (plus a [y]) x hx with h | h
    · rcases plus_mem x h with h | h
      · exact .inl h
      · exact .inr (by simp_all)
    · exact .inr (.tail _ h)
theorem nf_ordF : ∀ (n : Nat) (w : List Nat), (∀ x ∈ w, x ≤ n) → nf (ofL (ordF n w))
  | 0, w, _ => nf_iff.2 ⟨List.pairwise_replicate.2 (.inr (le_refl _)), fun x hx => by rw [(List.mem_replicate.1 hx).2]; trivial⟩
  | n + 1, w, h => by
    rw [ordF_ord h]
    refine nf_iff.2 ⟨desc_ord w, ?_⟩
    intro x hx
    rw [ord_step] at hx
    split at hx
    · rw [(List.mem_replicate.1 hx).2]; trivial
    · rcases foldP_mem _ _ x hx with g | g
      · cases g
      · obtain ⟨p, hp, rfl⟩ := List.mem_map.1 g
        have hl := low_le h (List.mem_reverse.1 hp)
        rw [← ordF_ord hl]; exact nf_ordF n _ hl
theorem nf_ord (w : List Nat) : nf (ofL (ord w)) := nf_ordF _ w (top_le.1 (Nat.le_refl _))
theorem nf_plus {a b : List Tr} (ha : nf (ofL a)) (hb : nf (ofL b)) : nf (ofL (plus a b)) := by
  rw [nf_iff] at *
  exact ⟨desc_plus ha.1 hb.1, fun x hx => (plus_mem x hx).elim (ha.2 x) (hb.2 x)⟩
/-- pieces put together again -/
def join : List (List Nat) → List Nat
  | [] => []
  | [p] => p
  | p :: q :: r => p ++ 0 :: join (q :: r)
theorem cutA_ne (h w : List Nat) : cutA h w ≠ [] := by
  induction w generalizing h with
  | nil => simp [cutA]
  | cons a w ih => cases a <;> simp [cutA, ih]
theorem join_cutA (h w : List Nat) : join (cutA h w) = h ++ w := by
  induction w generalizing h with
  | nil => simp [cutA, join]
  | cons a w ih =>
    cases a with
    | zero =>
      rw [cutA]
      cases e : cut w with
      | nil => exact absurd e (cutA_ne _ _)
      | cons q r => have := ih []; rw [show cutA [] w = cut w from rfl, e] at *; rw [join, this]; simp
    | succ k => rw [cutA, ih]; simp
theorem cut_join : ∀ {ps : List (List Nat)}, ps ≠ [] → (∀ p ∈ ps, ∀ x ∈ p, 0 < x) → cut (join ps) = ps
  | [], h, _ => absurd rfl h
  | [p], _, h => by rw [join, cut, cutA_pos (h p (.head _))]; simp
  | p :: q :: r, _, h => by
    rw [join, cut, cutA_append, cutA_pos (h p (.head _)), cut_join (by simp) (fun p' hp => h p' (.tail _ hp))]; simp
/-- the worm of an ordinal -/
def isNum : Tr → Bool
  | .nil => true
  | .cons h _ => h == .nil
mutual
def wrm : Tr → List Nat
  | .nil => []
  | .cons h t => if h = .nil then List.replicate ((kids t).length + 1) 0 else join ((up (wrm h) :: wrms t).reverse)
def wrms : Tr → List (List Nat)
  | .nil => []
  | .cons h t => up (wrm h) :: wrms t
end
theorem wrms_map (a : Tr) : wrms a = (kids a).map (fun x => up (wrm x)) := by
  induction a with
  | nil => rfl
  | cons h t _ ih => rw [wrms, kids, List.map_cons, ih]
theorem desc_nil : ∀ {l : List Tr}, desc (nil :: l) → l = List.replicate l.length nil
  | [], _ => rfl
  | x :: l, h => by
    have h1 := List.pairwise_cons.1 h
    have : x = nil := le_antisymm (h1.1 x (.head _)) (nil_le x)
    subst this
    have := desc_nil h1.2
    rw [List.length_cons, List.replicate_succ, ← this]
theorem low_up (w : List Nat) : low (up w) = w := by simp [List.map_map, Function.comp_def]
theorem size_kid : ∀ {a x : Tr}, x ∈ kids a → sizeOf x < sizeOf a
  | .nil, x, h => by cases h
  | .cons h t, x, g => by
    rcases List.mem_cons.1 g with rfl | g
    · simp; omega
    · have := size_kid g; simp; omega
theorem wrm_cons {h t : Tr} (e : h ≠ .nil) : wrm (.cons h t) = join (((h :: kids t).map (fun x => up (wrm x))).reverse) := by
  rw [wrm, if_neg e, wrms_map]; rfl
/-- the order of an ordinal's worm is the ordinal -/
theorem ord_wrm (a : Tr) (ha : nf a) : ofL (ord (wrm a)) = a := by
  match a, ha with
  | .nil, _ => rfl
  | .cons h t, ha =>
    obtain ⟨d, m⟩ := nf_cons_desc ha
    by_cases e : h = .nil
    · subst e
      have ht : kids t = List.replicate (kids t).length nil := desc_nil d
      have hw : wrm (.cons .nil t) = List.replicate ((kids t).length + 1) 0 := by rw [wrm, if_pos rfl]
      have hz : zeros (List.replicate ((kids t).length + 1) 0) = true := by simp [zeros]
      rw [hw, ord_step, if_pos hz, List.length_replicate, List.replicate_succ, ← ht, ofL, ofL_kids]
    · have ih : ∀ x ∈ h :: kids t, ofL (ord (wrm x)) = x := fun x hx =>
        have : sizeOf x < sizeOf (Tr.cons h t) := size_kid (a := .cons h t) hx
        ord_wrm x (m x hx)
      have hpos : ∀ p ∈ ((h :: kids t).map (fun x => up (wrm x))).reverse, ∀ x ∈ p, 0 < x := by
        intro p hp x hx
        obtain ⟨y, _, rfl⟩ := List.mem_map.1 (List.mem_reverse.1 hp)
        obtain ⟨z, _, rfl⟩ := List.mem_map.1 hx
        exact Nat.succ_pos _
      have hne : ((h :: kids t).map (fun x => up (wrm x))).reverse ≠ [] := by simp
      have hc := cut_join hne hpos
      have hz : zeros (wrm (.cons h t)) = false := by
        rw [wrm_cons e]
        cases hh : zeros (join ((h :: kids t).map (fun x => up (wrm x))).reverse) with
        | false => rfl
        | true =>
          exfalso
          have hp : up (wrm h) ∈ cut (join ((h :: kids t).map (fun x => up (wrm x))).reverse) := by rw [hc]; simp
          have hn : wrm h ≠ [] := by
            intro hn
            have := ih h (.head _)
            rw [hn] at this
            exact e this.symm
          cases hv : wrm h with
          | nil => exact hn hv
          | cons z r =>
            have hm : z + 1 ∈ up (wrm h) := by rw [hv]; exact .head _
            have := (cut_mem hp _ hm).1
            have := List.all_eq_true.1 hh _ this
            simp at this
      rw [ord_whole hz, whole, wrm_cons e, hc, List.reverse_reverse, List.map_map]
      have : (h :: kids t).map ((fun p => ofL (ord (low p))) ∘ fun x => up (wrm x)) = h :: kids t := by
        conv => rhs; rw [← List.map_id (h :: kids t)]
        apply List.map_congr_left
        intro x hx
        simp only [Function.comp, id]; rw [low_up]; exact ih x hx
      rw [this, foldP_desc _ [] (show desc ([] ++ (h :: kids t)) from d)]
      simp [ofL]
termination_by sizeOf a
decreasing_by exact this
end Ma

set_option linter.all false
/-! MaE -/
namespace Ma
open Tr
/-- how many rows it holds, itself too -/
def nodes : Tr → Nat
  | .nil => 1
  | .cons h t => nodes h + nodes t
def sumN (l : List Tr) : Nat := (l.map nodes).sum
theorem nodes_ofL (l : List Tr) : nodes (ofL l) = 1 + sumN l := by
  induction l with
  | nil => rfl
  | cons x l ih => simp only [ofL, nodes, ih, sumN, List.map_cons, List.sum_cons]; omega
theorem sumN_append (a b : List Tr) : sumN (a ++ b) = sumN a + sumN b := by simp [sumN]
theorem sumN_filter (f : Tr → Bool) (a : List Tr) : sumN (a.filter f) ≤ sumN a := by
  induction a with
  | nil => simp
  | cons x a ih =>
    simp only [sumN, List.map_cons, List.sum_cons] at *
    cases e : f x <;> simp [List.filter_cons, e] <;> omega
theorem sumN_plus (a b : List Tr) : sumN (plus a b) ≤ sumN a + sumN b := by
  cases b with
  | nil => simp [plus, sumN]
  | cons y b => rw [plus, sumN_append]; have := sumN_filter (fun x => le y x) a; omega
theorem sumN_foldP : ∀ (xs a : List Tr), sumN (foldP a xs) ≤ sumN a + sumN xs
  | [], a => by simp [foldP, sumN]
  | x :: xs, a => by
    have h := sumN_foldP xs (plus a [x])
    have g := sumN_plus a [x]
    have e : sumN (x :: xs) = sumN [x] + sumN xs := by rw [← sumN_append]; rfl
    show sumN (foldP (plus a [x]) xs) ≤ _
    omega
/-- what a worm weighs -/
def wt (w : List Nat) : Nat := (w.map (· + 1)).sum
theorem wt_cutA (h w : List Nat) : (((cutA h w).map (fun p => 1 + p.sum)).sum) ≤ 1 + h.sum + wt w ∧ (zeros w = false → (((cutA h w).map (fun p => 1 + p.sum)).sum) ≤ h.sum + wt w) := by
  induction w generalizing h with
  | nil => simp [cutA, wt, zeros]
  | cons a w ih =>
    cases a with
    | zero =>
      have := ih []
      simp only [cutA, List.map_cons, List.sum_cons, wt, zeros, List.all_cons, List.sum_nil] at *
      refine ⟨by omega, fun g => ?_⟩
      have := this.2 (by simpa using g)
      omega
    | succ k =>
      have := (ih (h ++ [k + 1])).1
      simp only [cutA, List.sum_append, List.sum_cons, List.sum_nil, wt, List.map_cons] at *
      exact ⟨by omega, fun _ => by omega⟩
theorem sum_le {α : Type} (f g : α → Nat) : ∀ (l : List α), (∀ x ∈ l, f x ≤ g x) → (l.map f).sum ≤ (l.map g).sum
  | [], _ => by simp
  | x :: l, h => by
    have h1 := h x (.head _)
    have h2 := sum_le f g l (fun y hy => h y (.tail _ hy))
    simp only [List.map_cons, List.sum_cons]; omega
theorem wt_low {p : List Nat} (h : ∀ x ∈ p, 0 < x) : wt (low p) = p.sum := by
  induction p with
  | nil => rfl
  | cons a p ih =>
    have h1 := h a (.head _)
    have := ih (fun x hx => h x (.tail _ hx))
    simp only [wt, low, List.map_cons, List.sum_cons, List.map_map] at *
    omega
theorem len_wt (w : List Nat) : w.length ≤ wt w := by
  induction w with
  | nil => simp
  | cons a w ih => simp only [wt, List.map_cons, List.sum_cons, List.length_cons] at *; omega
theorem sumN_zero (n : Nat) : sumN (List.replicate n Tr.nil) = n := by simp [sumN, nodes]
theorem nodes_ordF : ∀ (n : Nat) (w : List Nat), (∀ x ∈ w, x ≤ n) → sumN (ord w) ≤ wt w := by
  intro n
  induction n with
  | zero =>
    intro w h
    rw [ord_step, if_pos (zeros_of h), sumN_zero]
    exact len_wt w
  | succ n ih =>
    intro w h
    rw [ord_step]
    split
    · rw [sumN_zero]; exact len_wt w
    · rename_i hz
      have h1 := sumN_foldP ((cut w).reverse.map fun p => ofL (ord (low p))) []
      have h2 : sumN ((cut w).reverse.map fun p => ofL (ord (low p))) ≤ (((cut w).reverse).map (fun p => 1 + p.sum)).sum := by
        rw [sumN, List.map_map]
        apply sum_le
        intro p hp
        have hp := List.mem_reverse.1 hp
        have := ih (low p) (low_le h hp)
        rw [wt_low (fun x hx => (cut_mem hp x hx).2)] at this
        simp only [Function.comp, nodes_ofL]; omega
      have h3 : (((cut w).reverse).map (fun p => 1 + p.sum)).sum = ((cut w).map (fun p => 1 + p.sum)).sum := by
        rw [List.map_reverse, List.sum_reverse]
      have h4 : ((cut w).map (fun p => 1 + p.sum)).sum ≤ [].sum + wt w := (wt_cutA [] w).2 (by simpa using hz)
      have h5 : sumN [] = 0 := rfl
      simp only [List.sum_nil] at h4
      omega
theorem nodes_ord (w : List Nat) : nodes (ofL (ord w)) ≤ 1 + wt w := by
  rw [nodes_ofL]; have := nodes_ordF (top w) w (top_le.1 (Nat.le_refl _)); omega
end Ma

set_option linter.all false
/-! MaF -/
namespace Ma
open Tr
def ht : Tr → Nat
  | .nil => 0
  | .cons h t => max (ht h + 1) (ht t)
theorem ht_kid : ∀ {a x : Tr}, x ∈ kids a → ht x + 1 ≤ ht a
  | .nil, x, h => by cases h
  | .cons h t, x, g => by
    rcases List.mem_cons.1 g with rfl | g
    · rw [ht]; omega
    · have := ht_kid g; rw [ht]; omega
theorem ht_ofL {l : List Tr} {n : Nat} (h : ∀ x ∈ l, ht x + 1 ≤ n) : ht (ofL l) ≤ n := by
  induction l with
  | nil => exact Nat.zero_le _
  | cons x l ih =>
    have h1 := h x (.head _)
    have h2 := ih (fun y hy => h y (.tail _ hy))
    rw [ofL, ht]; omega
theorem mem_join : ∀ {ps : List (List Nat)} {x : Nat}, x ∈ join ps → x = 0 ∨ ∃ p ∈ ps, x ∈ p
  | [], x, h => by cases h
  | [p], x, h => .inr ⟨p, .head _, h⟩
  | p :: q :: r, x, h => by
    rw [join] at h
    rcases List.mem_append.1 h with h | h
    · exact .inr ⟨p, .head _, h⟩
    · rcases List.mem_cons.1 h with h | h
      · exact .inl h
      · rcases mem_join h with h | ⟨p', h1, h2⟩
        · exact .inl h
        · exact .inr ⟨p', .tail _ h1, h2⟩
theorem wrm_letters (a : Tr) : ∀ x ∈ wrm a, x + 1 ≤ ht a := by
  match a with
  | .nil => intro x hx; simp [wrm] at hx
  | .cons h t =>
    by_cases e : h = .nil
    · subst e
      intro x hx
      rw [wrm, if_pos rfl] at hx
      rw [(List.mem_replicate.1 hx).2, ht, ht]; omega
    · intro x hx
      rw [wrm_cons e] at hx
      rcases mem_join hx with rfl | ⟨p, hp, hx⟩
      · rw [ht]; omega
      · obtain ⟨y, hy, rfl⟩ := List.mem_map.1 (List.mem_reverse.1 hp)
        obtain ⟨z, hz, rfl⟩ := List.mem_map.1 hx
        have : sizeOf y < sizeOf (Tr.cons h t) := size_kid (a := .cons h t) hy
        have h1 := wrm_letters y z hz
        have h2 := ht_kid (a := .cons h t) hy
        show z + 1 + 1 ≤ _
        omega
termination_by sizeOf a
decreasing_by exact this
theorem len_join : ∀ (ps : List (List Nat)), (join ps).length + 1 ≤ (ps.map (fun p => p.length + 1)).sum + 1 ∧ (ps ≠ [] → (join ps).length + 1 ≤ (ps.map (fun p => p.length + 1)).sum)
  | [] => by simp [join]
  | [p] => by simp [join]
  | p :: q :: r => by
    have := (len_join (q :: r)).2 (by simp)
    simp only [join, List.length_append, List.length_cons, List.map_cons, List.sum_cons] at *
    exact ⟨by omega, fun _ => by omega⟩
theorem wrm_length (a : Tr) : (wrm a).length + 1 ≤ nodes a := by
  match a with
  | .nil => simp [wrm, nodes]
  | .cons h t =>
    have hn : nodes (Tr.cons h t) = 1 + sumN (h :: kids t) := by
      have := nodes_ofL (h :: kids t); rw [ofL, ofL_kids] at this; exact this
    by_cases e : h = .nil
    · subst e
      rw [wrm, if_pos rfl, List.length_replicate, hn]
      have : ∀ l : List Tr, l.length ≤ sumN l := by
        intro l
        induction l with
        | nil => simp
        | cons x l ih =>
          have : 1 ≤ nodes x := by cases x with
            | nil => exact Nat.le_refl _
            | cons u v => have := nodes_ofL (kids (.cons u v)); rw [ofL_kids] at this; omega
          simp only [sumN, List.length_cons, List.map_cons, List.sum_cons] at *; omega
      have := this (Tr.nil :: kids t)
      simp only [List.length_cons] at this; omega
    · rw [wrm_cons e, hn]
      have h1 := (len_join ((h :: kids t).map (fun x => up (wrm x))).reverse).1
      rw [List.map_reverse, List.sum_reverse, List.map_map] at h1
      have h2 : ((h :: kids t).map ((fun p => p.length + 1) ∘ fun x => up (wrm x))).sum ≤ sumN (h :: kids t) := by
        apply sum_le
        intro y hy
        have : sizeOf y < sizeOf (Tr.cons h t) := size_kid (a := .cons h t) hy
        have := wrm_length y
        simpa using this
      omega
termination_by sizeOf a
decreasing_by exact this
theorem ht_ordF : ∀ (n : Nat) (w : List Nat), (∀ x ∈ w, x ≤ n) → ht (ofL (ord w)) ≤ n + 1 := by
  intro n
  induction n with
  | zero =>
    intro w h
    rw [ord_step, if_pos (zeros_of h)]
    exact ht_ofL (fun x hx => by rw [(List.mem_replicate.1 hx).2, ht]; omega)
  | succ n ih =>
    intro w h
    refine ht_ofL (fun x hx => ?_)
    rw [ord_step] at hx
    split at hx
    · rw [(List.mem_replicate.1 hx).2, ht]; omega
    · rcases foldP_mem _ _ x hx with g | g
      · cases g
      · obtain ⟨p, hp, rfl⟩ := List.mem_map.1 g
        have := ih (low p) (low_le h (List.mem_reverse.1 hp))
        omega
end Ma

set_option linter.all false
/-! MaG -/
namespace Ma
open Tr PY
def dTs : Tr → List D
  | .nil => []
  | .cons h t => .tup (dTs h) :: dTs t
abbrev dT (a : Tr) : D := .tup (dTs a)
abbrev dL (l : List Tr) : D := .tup (l.map dT)
abbrev dW (w : List Nat) : D := .tup (w.map fun (n : Nat) => D.int n)
theorem dTs_kids (a : Tr) : dTs a = (kids a).map dT := by
  induction a with
  | nil => rfl
  | cons h t _ ih => rw [dTs, kids, List.map_cons, ih]
theorem dT_ofL (l : List Tr) : dT (ofL l) = dL l := by rw [dT, dTs_kids, kids_ofL]
theorem eq_dTs (a b : Tr) : eqDs (dTs a) (dTs b) = decide (a = b) := by
  induction a generalizing b with
  | nil => cases b <;> simp [dTs, eqDs]
  | cons h t ih1 ih2 => cases b <;> simp [dTs, eqDs, eqD, ih1, ih2]
theorem eq_dT (a b : Tr) : eqD (dT a) (dT b) = decide (a = b) := by rw [dT, dT, eqD, eq_dTs]
theorem cmp_dTs (a b : Tr) : cmpDs (dTs a) (dTs b) = some (cmp a b) := by
  induction a generalizing b with
  | nil => cases b <;> simp [dTs, cmpDs, cmp]
  | cons h t ih1 ih2 =>
    cases b with
    | nil => simp [dTs, cmpDs, cmp]
    | cons h' t' =>
      simp only [dTs, cmpDs, cmp, eqD, eq_dTs, cmpD, ih1, ih2]
      by_cases e : h = h'
      · subst e; simp [cmp_self]
      · simp only [decide_eq_true_eq, if_neg e]
        cases g : cmp h h' with
        | eq => exact absurd (cmp_eq g) e
        | lt => rfl
        | gt => rfl
theorem cmp_dT (a b : Tr) : cmpD (dT a) (dT b) = some (cmp a b) := by rw [dT, dT, cmpD, cmp_dTs]
theorem plain_dTs (a : Tr) : plains (dTs a) = true := by
  induction a with
  | nil => rfl
  | cons h t ih1 ih2 => simp [dTs, plains, D.plain, ih1, ih2]
theorem depth_dTs (a : Tr) : depths (dTs a) = ht a := by
  induction a with
  | nil => rfl
  | cons h t ih1 ih2 => simp [dTs, depths, D.depth, ih1, ih2, ht]
end Ma

set_option linter.all false
set_option maxRecDepth 100000
/-! MiA -/
namespace PM
open PY
open PySem
theorem bnd_ok (t : T) (f : Bool) (m : Mu) (k : T → Mu → Option R) : bnd (some (.ok t f m)) k = k t m := rfl
theorem bndL_ok (t : List T) (m : Mu) (k : List T → Mu → Option R) : bndL (some (.ok t m)) k = k t m := rfl
theorem okL_ok (t : List T) (m : Mu) (k : List T → Mu → Option R) : okL (some (.ok t m)) k = k t m := rfl
theorem bndS_ok (t : T) (f : Bool) (m : Mu) (r : Rho) (k : T → Bool → Mu → Option RS) : bndS (some (.ok t f m)) r k = k t f m := rfl
@[simp] theorem rd_val (m : Mu) (d : D) : rd m (.val d) = some d := rfl
@[simp] theorem giv_some (d : D) (b : Bool) (m : Mu) : giv (some (d, b)) m = some (.ok (.val d) b m) := rfl
@[simp] theorem nxt_some (r : Rho) (m : Mu) : nxt (some (r, m)) = some (.nx r m) := rfl
theorem callN_at {P : Pr} {f : Str} {fd : Fd} (h : P.fd f = some fd) (k : Nat) (ts : List T) (m : Mu) (hl : ts.length = fd.ps.length) :
    callN P (k + 1) f ts m = fin m.length (execs ⟨P.g, callN P k⟩ m.length fd.body (ts.map some ++ List.replicate (fd.nv - fd.ps.length) none) m) := by
  simp only [callN, h, hl, if_true]
end PM

set_option linter.all false
/-! MiB -/
namespace PM
open PY
open PySem
theorem still_self (a : Option Nat) (m : Mu) : still a m m = true := by cases a <;> simp [still]
/-- a comprehension whose test and element change nothing -/
theorem cmpL_pure {tg : Tg} {conds elt : Rho → Mu → Option R} {a : Option Nat} {r : Rho} {m : Mu} (p : D → Bool) (g : D → D) (rf : D → Rho) :
    ∀ (ds acc : List D), (∀ d ∈ ds, bindT tg d r = some (rf d) ∧ (∃ f, conds (rf d) m = some (.ok (.val (.bl (p d))) f m)) ∧ (p d = true → ∃ f, elt (rf d) m = some (.ok (.val (g d)) f m))) →
      acc.length + ds.length ≤ line → cmpL tg conds elt a r ds acc m = some (.ok (.val (.lst (acc ++ (ds.filter p).map g))) true m)
  | [], acc, _, _ => by simp [cmpL]
  | d :: ds, acc, h, hl => by
    obtain ⟨h1, ⟨f, h2⟩, h3⟩ := h d (.head _)
    simp only [List.length_cons] at hl
    rw [cmpL, h1, Option.bind_some, h2, bnd_ok, rd_val, Option.bind_some, truth, Option.bind_some]
    cases e : p d with
    | true =>
      obtain ⟨f', h4⟩ := h3 e
      have hk : (still a m m && decide (acc.length < line)) = true := by
        rw [still_self, Bool.true_and, decide_eq_true_eq]; omega
      simp only [h4, bnd_ok, if_true, hk]
      rw [cmpL_pure p g rf ds (acc ++ [g d]) (fun x hx => h x (.tail _ hx)) (by simp; omega), List.filter_cons_of_pos e]
      simp
    | false =>
      simp only [Bool.false_eq_true, if_false, still_self, if_true]
      rw [cmpL_pure p g rf ds acc (fun x hx => h x (.tail _ hx)) (by omega), List.filter_cons_of_neg (by simp [e])]
end PM

set_option linter.all false
/-! MiC -/
namespace PM
open PY
open PySem
/-- a loop whose body goes from one state to the next; I holds of each state and what is still to come -/
theorem forL_fold {σ : Type} {tg : Tg} {body : Rho → Mu → Option RS} {a : Option Nat} (er : σ → Rho) (em : σ → Mu) (st : σ → D → σ) (I : σ → List D → Prop)
    (h : ∀ s d ds, I s (d :: ds) → I (st s d) ds ∧ ∃ r1, bindT tg d (er s) = some r1 ∧ body r1 (em s) = some (.nx (er (st s d)) (em (st s d))) ∧ still a (em s) (em (st s d)) = true) :
    ∀ (ds : List D) (s : σ), I s ds → forL tg body a ds (er s) (em s) = some (.nx (er (ds.foldl st s)) (em (ds.foldl st s)))
  | [], s, _ => rfl
  | d :: ds, s, hi => by
    obtain ⟨h1, r1, h2, h3, h4⟩ := h s d ds hi
    rw [forL, h2, Option.bind_some, h3]
    simp only [h4, if_true]
    exact forL_fold er em st I h ds (st s d) h1
end PM

set_option linter.all false
set_option maxRecDepth 100000
/-! MiD -/
namespace PM
open PY
open PySem (Str Operator CmpOp)
/-- a type that names what is not to be rewritten -/
abbrev Res {α : Type} (β : Type) (_ : α) : Type := β
def bnq (r : Option R) (k : T → Mu → Option R) : Res (Option R) k := bnd r k
def bnqL (r : Option RL) (k : List T → Mu → Option R) : Res (Option R) k := bndL r k
def okq (r : Option RL) (k : List T → Mu → Option R) : Res (Option R) k := okL r k
def bnqS (x : Option R) (r : Rho) (k : T → Bool → Mu → Option RS) : Res (Option RS) k := bndS x r k
def obq {α β : Type} (x : Option α) (k : α → Option β) : Res (Option β) k := x.bind k
@[simp] theorem bnq_ok (t : T) (f : Bool) (m : Mu) (k : T → Mu → Option R) : bnq (some (.ok t f m)) k = k t m := rfl
@[simp] theorem bnq_ex (e : D) (m : Mu) (k : T → Mu → Option R) : bnq (some (.ex e m)) k = some (.ex e m) := rfl
@[simp] theorem bnqL_ok (t : List T) (m : Mu) (k : List T → Mu → Option R) : bnqL (some (.ok t m)) k = k t m := rfl
@[simp] theorem bnqL_ex (e : D) (m : Mu) (k : List T → Mu → Option R) : bnqL (some (.ex e m)) k = some (.ex e m) := rfl
@[simp] theorem okq_ok (t : List T) (m : Mu) (k : List T → Mu → Option R) : okq (some (.ok t m)) k = k t m := rfl
@[simp] theorem bnqS_ok (t : T) (f : Bool) (m : Mu) (r : Rho) (k : T → Bool → Mu → Option RS) : bnqS (some (.ok t f m)) r k = k t f m := rfl
@[simp] theorem bnqS_ex (e : D) (m : Mu) (r : Rho) (k : T → Bool → Mu → Option RS) : bnqS (some (.ex e m)) r k = some (.ex e r m) := rfl
@[simp] theorem obq_some {α β : Type} (x : α) (k : α → Option β) : obq (some x) k = k x := rfl
/-- one statement behind another one -/
def seqS (x : Option RS) (k : Rho → Mu → Option RS) : Res (Option RS) k :=
  match x with
  | some (.nx r1 m1) => k r1 m1
  | x => x
@[simp] theorem seqS_nx (r : Rho) (m : Mu) (k : Rho → Mu → Option RS) : seqS (some (.nx r m)) k = k r m := rfl
@[simp] theorem seqS_rt (t : T) (f : Bool) (m : Mu) (k : Rho → Mu → Option RS) : seqS (some (.rt t f m)) k = some (.rt t f m) := rfl
@[simp] theorem seqS_ex (e : D) (r : Rho) (m : Mu) (k : Rho → Mu → Option RS) : seqS (some (.ex e r m)) k = some (.ex e r m) := rfl
@[simp] theorem seqS_bk (r : Rho) (m : Mu) (k : Rho → Mu → Option RS) : seqS (some (.bk r m)) k = some (.bk r m) := rfl
@[simp] theorem execs_nil (c : Cz) (n : Nat) (r : Rho) (m : Mu) : execs c n [] r m = some (.nx r m) := by rw [execs]
@[simp] theorem execs_cons (c : Cz) (n : Nat) (s : S) (ss : List S) (r : Rho) (m : Mu) : execs c n (s :: ss) r m = seqS (exec c n s r m) fun r1 m1 => execs c n ss r1 m1 := by
  rw [execs]; unfold seqS; rfl
/-- values of arguments, one behind another one -/
def consL (x : Option R) (k : Mu → Option RL) : Res (Option RL) k :=
  match x with
  | none => none
  | some (.ex e m1) => some (.ex e m1)
  | some (.ok t _ m1) => match k m1 with
    | none => none
    | some (.ex e m2) => some (.ex e m2)
    | some (.ok ts m2) => some (.ok (t :: ts) m2)
def putL (t : T) (x : Option RL) : Option RL :=
  match x with
    | none => none
    | some (.ex e m2) => some (.ex e m2)
    | some (.ok ts m2) => some (.ok (t :: ts) m2)
@[simp] theorem putL_ok (t : T) (ts : List T) (m : Mu) : putL t (some (.ok ts m)) = some (.ok (t :: ts) m) := rfl
@[simp] theorem consL_ok (t : T) (f : Bool) (m : Mu) (k : Mu → Option RL) : consL (some (.ok t f m)) k = putL t (k m) := rfl
@[simp] theorem evL_nil (c : Cz) (r : Rho) (m : Mu) : evL c [] r m = some (.ok [] m) := by rw [evL]
@[simp] theorem evL_cons (c : Cz) (e : E) (es : List E) (r : Rho) (m : Mu) : evL c (e :: es) r m = consL (ev c e r m) fun m1 => evL c es r m1 := by
  rw [evL]; rfl
theorem at_succ {k n : Nat} (h : n + 1 ≤ k) : ∃ j, k = j + 1 ∧ n ≤ j := ⟨k - 1, by omega, by omega⟩
end PM

set_option linter.all false
set_option maxRecDepth 100000
/-! MiE -/
namespace PM
open PY
open PySem (Str Operator CmpOp)
theorem cmp_int (a b : Int) : compare a b = if a < b then .lt else if a = b then .eq else .gt := by
  simp [compare, compareOfLessAndEq]
theorem okCmp_int (a b : Int) : okCmp (.int a) (.int b) = true := rfl
@[simp] theorem cop_lt (a b : Int) : cop .Lt (.int a) (.int b) = some (decide (a < b)) := by
  simp only [cop, okCmp_int, if_true, cmpD, cmp_int, Option.map_some]
  by_cases h : a < b
  · simp [h]
  · by_cases h2 : a = b <;> simp [h, h2]
@[simp] theorem cop_le (a b : Int) : cop .LtE (.int a) (.int b) = some (decide (a ≤ b)) := by
  simp only [cop, okCmp_int, if_true, cmpD, cmp_int, Option.map_some]
  by_cases h : a < b
  · have : a ≤ b := by omega
    simp [h, this]
  · by_cases h2 : a = b
    · simp [h2]
    · have : ¬ a ≤ b := by omega
      simp [h, h2, this]
@[simp] theorem cop_gt (a b : Int) : cop .Gt (.int a) (.int b) = some (decide (b < a)) := by
  simp only [cop, okCmp_int, if_true, cmpD, cmp_int, Option.map_some]
  by_cases h : a < b
  · have : ¬ b < a := by omega
    simp [h, this]
  · by_cases h2 : a = b
    · simp [h2]
    · have : b < a := by omega
      simp [h, h2, this]
@[simp] theorem cop_ge (a b : Int) : cop .GtE (.int a) (.int b) = some (decide (b ≤ a)) := by
  simp only [cop, okCmp_int, if_true, cmpD, cmp_int, Option.map_some]
  by_cases h : a < b
  · have : ¬ b ≤ a := by omega
    simp [h, this]
  · by_cases h2 : a = b
    · simp [h2]
    · have : b ≤ a := by omega
      simp [h, h2, this]
@[simp] theorem cop_eq (a b : Int) : cop .Eq (.int a) (.int b) = some (decide (a = b)) := by
  simp [cop, okCmp, D.plain, D.depth, eqD]; rfl
@[simp] theorem cop_ne (a b : Int) : cop .NotEq (.int a) (.int b) = some (!decide (a = b)) := by
  simp [cop, okCmp, D.plain, D.depth, eqD]; rfl
theorem cop_eqD {a b : D} (ha : a.plain = true) (hb : b.plain = true) (hd : a.depth ≤ 64 ∨ b.depth ≤ 64) : cop .Eq a b = some (eqD a b) := by
  simp only [cop, okCmp, ha, hb, Bool.true_and, decide_eq_true_eq]; rw [if_pos (by omega)]
theorem cop_neD {a b : D} (ha : a.plain = true) (hb : b.plain = true) (hd : a.depth ≤ 64 ∨ b.depth ≤ 64) : cop .NotEq a b = some (!eqD a b) := by
  simp only [cop, okCmp, ha, hb, Bool.true_and, decide_eq_true_eq]; rw [if_pos (by omega)]
@[simp] theorem truth_bl (b : Bool) : truth (.bl b) = some b := rfl
@[simp] theorem truth_tup (xs : List D) : truth (.tup xs) = some (!xs.isEmpty) := rfl
@[simp] theorem truth_lst (xs : List D) : truth (.lst xs) = some (!xs.isEmpty) := rfl
@[simp] theorem truth_non : truth .non = some false := rfl
@[simp] theorem truth_int (i : Int) : truth (.int i) = some (!decide (i = 0)) := by
  by_cases h : i = 0 <;> simp [truth, h, bne]
@[simp] theorem bop_add (a b : Int) : bop .Add (.int a) (.int b) = some (.int (a + b), false) := rfl
@[simp] theorem bop_sub (a b : Int) : bop .Sub (.int a) (.int b) = some (.int (a - b), false) := rfl
theorem bop_cat {xs ys : List D} (h : xs.length + ys.length ≤ line) : bop .Add (.tup xs) (.tup ys) = some (.tup (xs ++ ys), false) := by
  simp only [bop, h, if_true]
theorem bop_catL {xs ys : List D} (h : xs.length + ys.length ≤ line) : bop .Add (.lst xs) (.lst ys) = some (.lst (xs ++ ys), true) := by
  simp only [bop, h, if_true]
theorem flat_rep {α : Type} (x : α) : ∀ n, (List.replicate n [x]).flatten = List.replicate n x
  | 0 => rfl
  | n + 1 => by rw [List.replicate_succ, List.flatten_cons, flat_rep x n]; rfl
/-- (x,) * n -/
theorem bop_rep {x : D} {n : Int} (h : n ≤ 1000) (h0 : 0 ≤ n) : bop .Mult (.tup [x]) (.int n) = some (.tup (List.replicate n.toNat x), false) := by
  simp only [bop, List.length_singleton]; rw [if_pos (by simp; omega), flat_rep]
section
variable {α : Type} {tg : Tg} {conds elt : Rho → Mu → Option R} {a : Option Nat} {r : Rho} {m : Mu}
theorem cmpL_typed (φ ψ : α → D) (p : α → Bool) (rf : α → Rho) : ∀ (l : List α) (acc : List D), (∀ x ∈ l, bindT tg (φ x) r = some (rf x)) → (∀ x ∈ l, ∃ f, conds (rf x) m = some (.ok (.val (.bl (p x))) f m)) →
    (∀ x ∈ l, p x = true → ∃ f, elt (rf x) m = some (.ok (.val (ψ x)) f m)) → acc.length + l.length ≤ line →
    cmpL tg conds elt a r (l.map φ) acc m = some (.ok (.val (.lst (acc ++ (l.filter p).map ψ))) true m)
  | [], acc, _, _, _, _ => by simp [cmpL]
  | x :: l, acc, h1, h2, h3, hl => by
    obtain ⟨f, e2⟩ := h2 x (.head _)
    simp only [List.length_cons] at hl
    rw [List.map_cons, cmpL, h1 x (.head _), Option.bind_some, e2, bnd_ok, rd_val, Option.bind_some, truth, Option.bind_some]
    cases e : p x with
    | true =>
      obtain ⟨f', h4⟩ := h3 x (.head _) e
      have hk : (still a m m && decide (acc.length < line)) = true := by
        rw [still_self, Bool.true_and, decide_eq_true_eq]; omega
      simp only [h4, bnd_ok, if_true, hk]
      rw [cmpL_typed φ ψ p rf l (acc ++ [ψ x]) (fun x hx => h1 x (.tail _ hx)) (fun x hx => h2 x (.tail _ hx)) (fun x hx => h3 x (.tail _ hx)) (by simp; omega), List.filter_cons_of_pos e]
      simp
    | false =>
      simp only [Bool.false_eq_true, if_false, still_self, if_true]
      rw [cmpL_typed φ ψ p rf l acc (fun x hx => h1 x (.tail _ hx)) (fun x hx => h2 x (.tail _ hx)) (fun x hx => h3 x (.tail _ hx)) (by omega), List.filter_cons_of_neg (by simp [e])]
/-- [elt for x in l] -/
theorem cmpL_map (φ ψ : α → D) (i : Nat) {c : Cz} {l : List α} (he : ∀ x ∈ l, ∃ f, elt (r.set i (some (.val (φ x)))) m = some (.ok (.val (ψ x)) f m)) (hl : l.length ≤ line) :
    cmpL (.one i) (fun r m => evC c [] r m) elt a r (l.map φ) [] m = some (.ok (.val (.lst (l.map ψ))) true m) := by
  rw [cmpL_typed φ ψ (fun _ => true) (fun x => r.set i (some (.val (φ x)))) l [] (fun x _ => rfl) (fun x _ => ⟨false, by rw [evC]; rfl⟩) (fun x hx _ => he x hx) (by simpa using hl)]
  rw [List.filter_eq_self.2 (fun _ _ => rfl), List.nil_append]
/-- [elt for x in l if p] -/
theorem cmpL_if (φ ψ : α → D) (p : α → Bool) (i : Nat) {c : Cz} {l : List α} {cd : E} (hc : ∀ x ∈ l, ∃ f, ev c cd (r.set i (some (.val (φ x)))) m = some (.ok (.val (.bl (p x))) f m)) (he : ∀ x ∈ l, p x = true → ∃ f, elt (r.set i (some (.val (φ x)))) m = some (.ok (.val (ψ x)) f m)) (hl : l.length ≤ line) :
    cmpL (.one i) (fun r m => evC c [cd] r m) elt a r (l.map φ) [] m = some (.ok (.val (.lst ((l.filter p).map ψ))) true m) := by
  rw [cmpL_typed φ ψ p (fun x => r.set i (some (.val (φ x)))) l [] (fun x _ => rfl) (fun x hx => by rw [evC]; exact hc x hx) he (by simpa using hl)]
  simp
end
/-- a loop over a list of known kind; the state goes along -/
theorem forL_typed {α σ : Type} {tg : Tg} {body : Rho → Mu → Option RS} {a : Option Nat} (φ : α → D) (er : σ → Rho) (em : σ → Mu) (st : σ → α → σ) (I : σ → List α → Prop)
    (h : ∀ s x l, I s (x :: l) → I (st s x) l ∧ ∃ r1, bindT tg (φ x) (er s) = some r1 ∧ body r1 (em s) = some (.nx (er (st s x)) (em (st s x))) ∧ still a (em s) (em (st s x)) = true) :
    ∀ (l : List α) (s : σ), I s l → forL tg body a (l.map φ) (er s) (em s) = some (.nx (er (l.foldl st s)) (em (l.foldl st s)))
  | [], s, _ => rfl
  | x :: l, s, hi => by
    obtain ⟨h1, r1, h2, h3, h4⟩ := h s x l hi
    rw [List.map_cons, forL, h2, Option.bind_some, h3]
    simp only [h4, if_true]
    exact forL_typed φ er em st I h l (st s x) h1
@[simp] theorem forL_nil {tg : Tg} {body : Rho → Mu → Option RS} {a : Option Nat} {r : Rho} {m : Mu} : forL tg body a [] r m = some (.nx r m) := rfl
@[simp] theorem still_none (m m' : Mu) : still none m m' = true := rfl
@[simp] theorem bindT_one (i : Nat) (d : D) (r : Rho) : bindT (.one i) d r = some (r.set i (some (.val d))) := rfl
end PM

set_option linter.all false
set_option maxRecDepth 100000
/-! MiF -/
namespace PM
open PY
open PySem (Str Operator CmpOp)
@[simp] theorem cop_is_non (d : D) : cop .Is d .non = some (match d with | .non => true | _ => false) := rfl
@[simp] theorem cop_isnot_non (d : D) : cop .IsNot d .non = some (match d with | .non => false | _ => true) := rfl
@[simp] theorem fin_nx (n : Nat) (r : Rho) (m : Mu) : fin n (some (.nx r m)) = some (.ok (.val .non) false (m.take n)) := rfl
@[simp] theorem fin_rt (n : Nat) (d : D) (f : Bool) (m : Mu) : fin n (some (.rt (.val d) f m)) = some (.ok (.val d) f (m.take n)) := rfl
@[simp] theorem fin_ex (n : Nat) (e : D) (r : Rho) (m : Mu) : fin n (some (.ex e r m)) = some (.ex e (m.take n)) := rfl
@[simp] theorem vl_eq (d : D) (m : Mu) : vl d m = some (.ok (.val d) false m) := rfl
@[simp] theorem getV_zero (x : Option T) (r : Rho) : getV (x :: r) 0 = x := by simp [getV]
@[simp] theorem getV_succ (x : Option T) (r : Rho) (i : Nat) : getV (x :: r) (i + 1) = getV r i := by simp [getV]
section
variable (c : Cz) (r : Rho) (m : Mu) (n : Nat)
@[simp] theorem ev_var (i : Nat) : ev c (.var i) r m = (getV r i).map fun t => .ok t false m := by rw [ev]
@[simp] theorem ev_con (d : D) : ev c (.con d) r m = some (.ok (.val d) false m) := by rw [ev]; rfl
@[simp] theorem ev_glo (x : Str) : ev c (.glo x) r m = obq (c.g.glob x) fun d => vl d m := by rw [ev]; rfl
@[simp] theorem ev_bin (op : Operator) (a b : E) : ev c (.bin op a b) r m = bnq (ev c a r m) fun x m1 => bnq (ev c b r m1) fun y m2 => obq (rd m2 x) fun u => obq (rd m2 y) fun v => giv (bop op u v) m2 := by rw [ev]; rfl
@[simp] theorem ev_neg (a : E) : ev c (.neg a) r m = bnq (ev c a r m) fun x m1 => obq (rd m1 x) fun u => obq (negD u) fun v => vl v m1 := by rw [ev]; rfl
@[simp] theorem ev_not (a : E) : ev c (.not a) r m = bnq (ev c a r m) fun x m1 => obq (rd m1 x) fun u => obq (truth u) fun b => vl (.bl (!b)) m1 := by rw [ev]; rfl
/-- the second one where the first one's truth is k -/
def sel (k : Bool) (x : R) (y : Option R) : Res (Option R) (x, y) := if k = true then y else some x
@[simp] theorem sel_true (x : R) (y : Option R) : sel true x y = y := rfl
@[simp] theorem sel_false (x : R) (y : Option R) : sel false x y = some x := rfl
def two {α : Type} (k : Bool) (x y : α) : Res α (x, y) := if k = true then x else y
@[simp] theorem two_true {α : Type} (x y : α) : two true x y = x := rfl
@[simp] theorem two_false {α : Type} (x y : α) : two false x y = y := rfl
theorem two_bl (k : Bool) (x y : Bool) (m : Mu) : two k (some (R.ok (.val (.bl x)) false m)) (some (R.ok (.val (.bl y)) false m)) = some (R.ok (.val (.bl (bif k then x else y))) false m) := by cases k <;> rfl
@[simp] theorem ev_and (a b : E) : ev c (.and a b) r m = bnq (ev c a r m) fun x m1 => obq (rd m1 x) fun u => obq (truth u) fun k => sel k (.ok x false m1) (ev c b r m1) := by rw [ev]; rfl
@[simp] theorem ev_or (a b : E) : ev c (.or a b) r m = bnq (ev c a r m) fun x m1 => obq (rd m1 x) fun u => obq (truth u) fun k => sel (!k) (.ok x false m1) (ev c b r m1) := by
  rw [ev]; congr; funext x m1; congr; funext u; congr; funext k; cases k <;> rfl
@[simp] theorem ev_ife (t a b : E) : ev c (.ife t a b) r m = bnq (ev c t r m) fun x m1 => obq (rd m1 x) fun u => obq (truth u) fun k => two k (ev c a r m1) (ev c b r m1) := by rw [ev]; rfl
@[simp] theorem ev_cmp (op : CmpOp) (a b : E) : ev c (.cmp op a b) r m = bnq (ev c a r m) fun x m1 => bnq (ev c b r m1) fun y m2 => obq (rd m2 x) fun u => obq (rd m2 y) fun v => obq (cop op u v) fun k => vl (.bl k) m2 := by rw [ev]; rfl
@[simp] theorem ev_chn (op op' : CmpOp) (a b e : E) : ev c (.chn op op' a b e) r m = bnq (ev c a r m) fun x m1 => bnq (ev c b r m1) fun y m2 => obq (rd m2 x) fun u => obq (rd m2 y) fun v => obq (cop op u v) fun k =>
      sel k (.ok (.val (.bl false)) false m2) (bnq (ev c e r m2) fun z m3 => obq (rd m3 y) fun v => obq (rd m3 z) fun w => obq (cop op' v w) fun k => vl (.bl k) m3) := by rw [ev]; rfl
@[simp] theorem ev_tup (es : List E) : ev c (.tup es) r m = bnqL (evL c es r m) fun ts m1 => obq (tks m1 ts) fun p => two (decide (p.1.length ≤ line)) (vl (.tup p.1) p.2) none := by rw [ev]; unfold bnqL obq two; simp
@[simp] theorem ev_lst (es : List E) : ev c (.lst es) r m = bnqL (evL c es r m) fun ts m1 => obq (tks m1 ts) fun p => two (decide (p.1.length ≤ line)) (some (.ok (.val (.lst p.1)) true p.2)) none := by rw [ev]; unfold bnqL obq two; simp
@[simp] theorem ev_idx (a i : E) : ev c (.idx a i) r m = bnq (ev c a r m) fun x m1 => bnq (ev c i r m1) fun y m2 => obq (rd m2 x) fun u => obq (rd m2 y) fun v => obq (idxD u v) fun d => vl d m2 := by rw [ev]; rfl
@[simp] theorem ev_slc (l h : Bool) (a : E) (es : List E) : ev c (.slc l h a es) r m = bnq (ev c a r m) fun x m1 => okq (evL c es r m1) fun ts m2 => obq (rd m2 x) fun u => obq (valsT ts) fun ds => giv (slcB l h u ds) m2 := by rw [ev]; rfl
@[simp] theorem ev_rev (a : E) : ev c (.rev a) r m = bnq (ev c a r m) fun x m1 => obq (rd m1 x) fun u => giv (revD u) m1 := by rw [ev]; rfl
@[simp] theorem ev_call (f : Str) (es : List E) (o : List Nat) : ev c (.call f es o) r m = bnqL (evL c es r m) fun ts m1 => obq (pick ts o) fun us => c.call f us m1 := by rw [ev]; rfl
def clo (c : Cz) (t : T) (x : Option RL) : Option R := match t with
    | .val (.fn f) => bnqL x fun ts m1 => c.call f ts m1
    | _ => none
@[simp] theorem clo_fn (f : Str) (x : Option RL) : clo c (.val (.fn f)) x = bnqL x fun ts m1 => c.call f ts m1 := rfl
@[simp] theorem ev_cloc (i : Nat) (es : List E) : ev c (.cloc i es) r m = obq (getV r i) fun t => clo c t (evL c es r m) := by rw [ev]; congr
@[simp] theorem ev_blt (b : Bt) (es : List E) : ev c (.blt b es) r m = bnqL (evL c es r m) fun ts m1 => obq (rds m1 ts) fun ds => giv (blt b ds) m1 := by rw [ev]; rfl
@[simp] theorem ev_isi (a : E) (t : String) : ev c (.isi a t) r m = bnq (ev c a r m) fun x m1 => obq (rd m1 x) fun u => obq (isiD c.g u t) fun k => vl (.bl k) m1 := by rw [ev]; rfl
/-- what a comprehension gives -/
def outC (x : Option R) : Option R := match x with | some (.ex _ _) => none | x => x
@[simp] theorem outC_ok (t : T) (f : Bool) : outC (some (.ok t f m)) = some (.ok t f m) := rfl
def bndI (x : Option RI) (k : List D → Option Nat → Mu → Option R) : Res (Option R) k := match x with
    | none => none
    | some (.ex e m1) => some (.ex e m1)
    | some (.ok ds a m1) => k ds a m1
@[simp] theorem bndI_ok (ds : List D) (a : Option Nat) (k : List D → Option Nat → Mu → Option R) : bndI (some (.ok ds a m)) k = k ds a m := rfl
def cmpE (c : Cz) (tg : Tg) (conds : List E) (elt : E) (a : Option Nat) (r : Rho) (ds : List D) (m : Mu) : Option R := cmpL tg (fun r m => evC c conds r m) (fun r m => ev c elt r m) a r ds [] m
@[simp] theorem ev_cmpr (elt : E) (tg : Tg) (it : E) (conds : List E) (own : List Nat) : ev c (.cmpr elt tg it conds own) r m = bndI (evI c it r m) fun ds a m1 => outC (cmpE c tg conds elt a (wipeR r own) ds m1) := by
  rw [ev]; unfold bndI outC cmpE; rfl
def bndJ (x : Option RL) (k : List T → Mu → Option RI) : Res (Option RI) k := match x with
    | none => none
    | some (.ex e m1) => some (.ex e m1)
    | some (.ok ts m1) => k ts m1
def bndK (x : Option R) (k : T → Mu → Option RI) : Res (Option RI) k := match x with
    | none => none
    | some (.ex e m1) => some (.ex e m1)
    | some (.ok t _ m1) => k t m1
@[simp] theorem bndJ_ok (ts : List T) (k : List T → Mu → Option RI) : bndJ (some (.ok ts m)) k = k ts m := rfl
@[simp] theorem bndK_ok (t : T) (f : Bool) (k : T → Mu → Option RI) : bndK (some (.ok t f m)) k = k t m := rfl
@[simp] theorem evI_rng (es : List E) : evI c (.rng es) r m = bndJ (evL c es r m) fun ts m1 => obq (rds m1 ts) fun ds => (rngOf ds).map fun xs => .ok xs none m1 := by rw [evI]; rfl
def zipT (x y : T) (m2 : Mu) : Option RI := match x, y with
        | .val (.tup xs), .val (.tup ys) => some (.ok (zipD xs ys) none m2)
        | .val (.lst xs), .val (.lst ys) => some (.ok (zipD xs ys) none m2)
        | _, _ => none
@[simp] theorem zipT_tup (xs ys : List D) : zipT (.val (.tup xs)) (.val (.tup ys)) m = some (.ok (zipD xs ys) none m) := rfl
@[simp] theorem zipT_lst (xs ys : List D) : zipT (.val (.lst xs)) (.val (.lst ys)) m = some (.ok (zipD xs ys) none m) := rfl
@[simp] theorem evI_zip (a b : E) : evI c (.zip a b) r m = bndK (ev c a r m) fun x m1 => bndK (ev c b r m1) fun y m2 => zipT x y m2 := by rw [evI]; rfl
def enmT (x : T) (m1 : Mu) : Option RI := match x with
        | .val (.lst xs) => some (.ok (enmD 0 xs) none m1)
        | _ => none
@[simp] theorem enmT_lst (xs : List D) : enmT (.val (.lst xs)) m = some (.ok (enmD 0 xs) none m) := rfl
@[simp] theorem evI_enm (a : E) : evI c (.enm a) r m = bndK (ev c a r m) enmT := by rw [evI]; rfl
def plainI : E → Bool | .rng _ => false | .zip _ _ => false | .enm _ => false | _ => true
theorem evI_seq {e : E} (h : plainI e = true) : evI c e r m = bndK (ev c e r m) fun x m1 => iterOf m1 x := by
  cases e <;> first | (simp [plainI] at h; done) | (simp only [evI, bndK]; rfl) | (simp only [evI, bndK])
@[simp] theorem evI_var (i : Nat) : evI c (.var i) r m = bndK (ev c (.var i) r m) fun x m1 => iterOf m1 x := evI_seq c r m rfl
@[simp] theorem evI_con (d : D) : evI c (.con d) r m = bndK (ev c (.con d) r m) fun x m1 => iterOf m1 x := evI_seq c r m rfl
@[simp] theorem evI_glo (x : Str) : evI c (.glo x) r m = bndK (ev c (.glo x) r m) fun x m1 => iterOf m1 x := evI_seq c r m rfl
@[simp] theorem evI_bin (op : Operator) (a b : E) : evI c (.bin op a b) r m = bndK (ev c (.bin op a b) r m) fun x m1 => iterOf m1 x := evI_seq c r m rfl
@[simp] theorem evI_ife (t a b : E) : evI c (.ife t a b) r m = bndK (ev c (.ife t a b) r m) fun x m1 => iterOf m1 x := evI_seq c r m rfl
@[simp] theorem evI_tup (es : List E) : evI c (.tup es) r m = bndK (ev c (.tup es) r m) fun x m1 => iterOf m1 x := evI_seq c r m rfl
@[simp] theorem evI_lst (es : List E) : evI c (.lst es) r m = bndK (ev c (.lst es) r m) fun x m1 => iterOf m1 x := evI_seq c r m rfl
@[simp] theorem evI_idx (a i : E) : evI c (.idx a i) r m = bndK (ev c (.idx a i) r m) fun x m1 => iterOf m1 x := evI_seq c r m rfl
@[simp] theorem evI_slc (l h : Bool) (a : E) (es : List E) : evI c (.slc l h a es) r m = bndK (ev c (.slc l h a es) r m) fun x m1 => iterOf m1 x := evI_seq c r m rfl
@[simp] theorem evI_rev (a : E) : evI c (.rev a) r m = bndK (ev c (.rev a) r m) fun x m1 => iterOf m1 x := evI_seq c r m rfl
@[simp] theorem evI_call (f : Str) (es : List E) (o : List Nat) : evI c (.call f es o) r m = bndK (ev c (.call f es o) r m) fun x m1 => iterOf m1 x := evI_seq c r m rfl
@[simp] theorem evI_blt (b : Bt) (es : List E) : evI c (.blt b es) r m = bndK (ev c (.blt b es) r m) fun x m1 => iterOf m1 x := evI_seq c r m rfl
@[simp] theorem evI_cmpr (elt : E) (tg : Tg) (it : E) (conds : List E) (own : List Nat) : evI c (.cmpr elt tg it conds own) r m = bndK (ev c (.cmpr elt tg it conds own) r m) fun x m1 => iterOf m1 x := evI_seq c r m rfl
@[simp] theorem iterOf_tup (xs : List D) : iterOf m (.val (.tup xs)) = some (.ok xs none m) := rfl
@[simp] theorem iterOf_lst (xs : List D) : iterOf m (.val (.lst xs)) = some (.ok xs none m) := rfl
theorem iterOf_loc {k : Nat} {xs : List D} (h : m[k]? = some (.lst xs)) : iterOf m (.loc k) = some (.ok xs (some k) m) := by simp [iterOf, h]
/-! MiF -/
@[simp] theorem exec_set (i : Nat) (e : E) : exec c n (.set i e) r m = bnqS (ev c e r m) r fun t _ m1 => nxt (putV n i t r m1) := by rw [exec]; rfl
@[simp] theorem exec_cell (i : Nat) (e : E) : exec c n (.cell i e) r m = bnqS (ev c e r m) r fun t f m1 => nxt (putC n i t f r m1) := by rw [exec]; rfl
def setsT (is : List Nat) (t : T) (r : Rho) (m1 : Mu) : Option RS := match t with
    | .val (.tup xs) => if xs.length = is.length then some (.nx ((is.zip xs).foldl (fun r p => r.set p.1 (some (.val p.2))) r) m1) else none
    | _ => none
@[simp] theorem exec_sets (is : List Nat) (e : E) : exec c n (.sets is e) r m = bnqS (ev c e r m) r fun t _ m1 => setsT is t r m1 := by rw [exec]; rfl
def bndF (x : Option RF) (r : Rho) (k : List (T × Bool) → Mu → Option RS) : Res (Option RS) k := match x with
    | none => none
    | some (.ex e m1) => some (.ex e r m1)
    | some (.ok ts m1) => k ts m1
@[simp] theorem bndF_ok (ts : List (T × Bool)) (k : List (T × Bool) → Mu → Option RS) : bndF (some (.ok ts m)) r k = k ts m := rfl
@[simp] theorem exec_par (is : List Nat) (cs : List Bool) (es : List E) : exec c n (.par is cs es) r m = bndF (evF c es r m) r fun ts m1 => nxt (putP is cs ts r m1) := by rw [exec]; rfl
def consF (x : Option R) (k : Mu → Option RF) : Res (Option RF) k := match x with
    | none => none
    | some (.ex e m1) => some (.ex e m1)
    | some (.ok t f m1) => match k m1 with
      | none => none
      | some (.ex e m2) => some (.ex e m2)
      | some (.ok ts m2) => some (.ok ((t, f) :: ts) m2)
def putF (t : T × Bool) (x : Option RF) : Option RF := match x with
      | none => none
      | some (.ex e m2) => some (.ex e m2)
      | some (.ok ts m2) => some (.ok (t :: ts) m2)
@[simp] theorem putF_ok (t : T × Bool) (ts : List (T × Bool)) : putF t (some (.ok ts m)) = some (.ok (t :: ts) m) := rfl
@[simp] theorem consF_ok (t : T) (f : Bool) (k : Mu → Option RF) : consF (some (.ok t f m)) k = putF (t, f) (k m) := rfl
@[simp] theorem evF_nil : evF c [] r m = some (.ok [] m) := by rw [evF]
@[simp] theorem evF_cons (e : E) (es : List E) : evF c (e :: es) r m = consF (ev c e r m) fun m1 => evF c es r m1 := by rw [evF]; rfl
def augT (t0 t : T) (op : Operator) (n i : Nat) (r : Rho) (m1 : Mu) : Option RS := match t0, t with
    | .val u, .val v => obq (augI op u v) fun z => nxt (putV n i (.val (.int z)) r m1)
    | _, _ => none
@[simp] theorem augT_val (u v : D) (op : Operator) (i : Nat) : augT (.val u) (.val v) op n i r m = obq (augI op u v) fun z => nxt (putV n i (.val (.int z)) r m) := rfl
@[simp] theorem augI_add (a b : Int) : augI .Add (.int a) (.int b) = some (a + b) := rfl
@[simp] theorem augI_sub (a b : Int) : augI .Sub (.int a) (.int b) = some (a - b) := rfl
@[simp] theorem exec_aug (i : Nat) (op : Operator) (e : E) : exec c n (.aug i op e) r m = obq (getV r i) fun t0 => bnqS (ev c e r m) r fun t _ m1 => augT t0 t op n i r m1 := by rw [exec]; rfl
def appT (t : T) (q : Nat) (r : Rho) (m1 : Mu) : Option RS := match t, m1[q]? with
    | .val v, some (.lst xs) => if xs.length < line then some (.nx r (m1.set q (.lst (xs ++ [v])))) else none
    | _, _ => none
theorem appT_val {v : D} {q : Nat} {xs : List D} (h : m[q]? = some (.lst xs)) (hl : xs.length < line) : appT (.val v) q r m = some (.nx r (m.set q (.lst (xs ++ [v])))) := by simp [appT, h, hl]
@[simp] theorem exec_app (i : Nat) (e : E) : exec c n (.app i e) r m = obq (cellAt r m i) fun q => bnqS (ev c e r m) r fun t _ m1 => appT t q r m1 := by rw [exec]; rfl
@[simp] theorem exec_ex (e : E) : exec c n (.ex e) r m = bnqS (ev c e r m) r fun _ _ m1 => some (.nx r m1) := by rw [exec]; rfl
@[simp] theorem exec_ite (t : E) (a b : List S) : exec c n (.ite t a b) r m = bnqS (ev c t r m) r fun x _ m1 => obq (rd m1 x) fun d => obq (truth d) fun k => two k (execs c n a r m1) (execs c n b r m1) := by rw [exec]; rfl
@[simp] theorem exec_ret (e : E) : exec c n (.ret e) r m = bnqS (ev c e r m) r fun t f m1 => some (.rt t f m1) := by rw [exec]; rfl
@[simp] theorem exec_retn : exec c n .retn r m = some (.rt (.val .non) false m) := by rw [exec]
@[simp] theorem exec_brk : exec c n .brk r m = some (.bk r m) := by rw [exec]
@[simp] theorem exec_pass : exec c n .pass r m = some (.nx r m) := by rw [exec]
def bndIS (x : Option RI) (r : Rho) (k : List D → Option Nat → Mu → Option RS) : Res (Option RS) k := match x with
    | none => none
    | some (.ex e m1) => some (.ex e r m1)
    | some (.ok ds a m1) => k ds a m1
@[simp] theorem bndIS_ok (ds : List D) (a : Option Nat) (k : List D → Option Nat → Mu → Option RS) : bndIS (some (.ok ds a m)) r k = k ds a m := rfl
noncomputable def forE (c : Cz) (n : Nat) (tg : Tg) (b : List S) (a : Option Nat) (ds : List D) (r : Rho) (m : Mu) : Option RS := forL tg (fun r m => execs c (lock n a) b r m) a ds r m
@[simp] theorem exec_for (tg : Tg) (it : E) (b : List S) : exec c n (.for tg it b) r m = bndIS (evI c it r m) r fun ds a m1 => forE c n tg b a ds r m1 := by rw [exec]; rfl
@[simp] theorem forE_nil (tg : Tg) (b : List S) (a : Option Nat) : forE c n tg b a [] r m = some (.nx r m) := rfl
noncomputable def whE (c : Cz) (n : Nat) (t : E) (b : List S) (r : Rho) (m : Mu) : Option RS := lim fun k => whN (fun r m => ev c t r m) (fun r m => execs c n b r m) k r m
@[simp] theorem exec_whl (t : E) (b : List S) : exec c n (.whl t b) r m = whE c n t b r m := by rw [exec]; rfl
@[simp] theorem putV_eq (i : Nat) (t : T) : putV n i t r m = if i < r.length then some (r.set i (some t), m) else none := rfl
end
end PM

set_option linter.all false
set_option maxRecDepth 100000
/-! MiG -/
namespace PM
open PY
open PySem (Str Operator CmpOp)
/-- where a body ends: on the way, or with Q -/
def outF (x : Option RS) (N : Rho → Mu → Prop) (Q : Option RS → Prop) : Prop :=
  match x with
  | none => False
  | some (.nx r m) => N r m
  | some (.bk r m) => Q (some (.nx r m))
  | some (.rt t f m) => Q (some (.rt t f m))
  | some (.ex e r m) => Q (some (.ex e r m))
section
variable (N : Rho → Mu → Prop) (Q : Option RS → Prop) (r : Rho) (m : Mu)
@[simp] theorem outF_nx : outF (some (.nx r m)) N Q = N r m := rfl
@[simp] theorem outF_bk : outF (some (.bk r m)) N Q = Q (some (.nx r m)) := rfl
@[simp] theorem outF_rt (t : T) (f : Bool) : outF (some (.rt t f m)) N Q = Q (some (.rt t f m)) := rfl
@[simp] theorem outF_ex (e : D) : outF (some (.ex e r m)) N Q = Q (some (.ex e r m)) := rfl
end
theorem forL_inv {α : Type} {tg : Tg} {body : Rho → Mu → Option RS} {a : Option Nat} (φ : α → D) (I : List α → Rho → Mu → Prop) (Q : Option RS → Prop)
    (step : ∀ x l r m, I (x :: l) r m → ∃ r1, bindT tg (φ x) r = some r1 ∧ outF (body r1 m) (fun r2 m2 => still a m m2 = true ∧ I l r2 m2) Q)
    (done : ∀ r m, I [] r m → Q (some (.nx r m))) : ∀ (l : List α) (r : Rho) (m : Mu), I l r m → Q (forL tg body a (l.map φ) r m)
  | [], r, m, h => by rw [List.map_nil, forL_nil]; exact done r m h
  | x :: l, r, m, h => by
    obtain ⟨r1, h1, h2⟩ := step x l r m h
    rw [List.map_cons, forL, h1, Option.bind_some]
    cases e : body r1 m with
    | none => rw [e] at h2; exact h2.elim
    | some y =>
      rw [e] at h2
      cases y with
      | nx r2 m2 => simp only [h2.1, if_true]; exact forL_inv φ I Q step done l r2 m2 h2.2
      | bk r2 m2 => exact h2
      | rt t f m2 => exact h2
      | ex e r2 m2 => exact h2
theorem forE_inv {α : Type} {tg : Tg} {c : Cz} {n : Nat} {b : List S} {a : Option Nat} (φ : α → D) (I : List α → Rho → Mu → Prop) (Q : Option RS → Prop)
    (step : ∀ x l r m, I (x :: l) r m → ∃ r1, bindT tg (φ x) r = some r1 ∧ outF (execs c (lock n a) b r1 m) (fun r2 m2 => still a m m2 = true ∧ I l r2 m2) Q)
    (done : ∀ r m, I [] r m → Q (some (.nx r m))) (l : List α) (r : Rho) (m : Mu) (h : I l r m) : Q (forE c n tg b a (l.map φ) r m) :=
  forL_inv (body := fun r m => execs c (lock n a) b r m) φ I Q step done l r m h
theorem forE_invD {tg : Tg} {c : Cz} {n : Nat} {b : List S} {a : Option Nat} (I : List D → Rho → Mu → Prop) (Q : Option RS → Prop)
    (step : ∀ x l r m, I (x :: l) r m → ∃ r1, bindT tg x r = some r1 ∧ outF (execs c (lock n a) b r1 m) (fun r2 m2 => still a m m2 = true ∧ I l r2 m2) Q)
    (done : ∀ r m, I [] r m → Q (some (.nx r m))) (l : List D) (r : Rho) (m : Mu) (h : I l r m) : Q (forE c n tg b a l r m) := by
  have := forE_inv (φ := id) I Q (tg := tg) (c := c) (n := n) (b := b) (a := a) step done l r m h
  rwa [List.map_id] at this
theorem whN_mono {test : Rho → Mu → Option R} {body : Rho → Mu → Option RS} : ∀ (k : Nat) (r : Rho) (m : Mu) (x : RS), whN test body k r m = some x → whN test body (k + 1) r m = some x
  | 0, r, m, x, h => by cases h
  | k + 1, r, m, x, h => by
    rw [whN] at h ⊢
    cases ht : test r m with
    | none => rw [ht] at h; exact h
    | some y =>
      rw [ht] at h
      cases y with
      | ex e m1 => exact h
      | ok t f m1 =>
        simp only at h ⊢
        cases hd : rd m1 t with
        | none => rw [hd] at h; exact h
        | some d =>
          rw [hd] at h
          simp only [Option.bind_some] at h ⊢
          cases hb : truth d with
          | none => rw [hb] at h; exact h
          | some b =>
            rw [hb] at h
            simp only [Option.bind_some] at h ⊢
            cases b with
            | false => exact h
            | true =>
              simp only [if_true] at h ⊢
              cases hz : body r m1 with
              | none => rw [hz] at h; exact h
              | some z =>
                rw [hz] at h
                cases z with
                | nx r2 m2 => exact whN_mono k r2 m2 x h
                | bk r2 m2 => exact h
                | rt t f m2 => exact h
                | ex e r2 m2 => exact h
theorem whN_le {test : Rho → Mu → Option R} {body : Rho → Mu → Option RS} {k j : Nat} {r : Rho} {m : Mu} {x : RS} (h : whN test body k r m = some x) (hj : k ≤ j) : whN test body j r m = some x := by
  induction hj with
  | refl => exact h
  | step _ ih => exact whN_mono _ _ _ _ ih
theorem lim_wh {test : Rho → Mu → Option R} {body : Rho → Mu → Option RS} {k : Nat} {r : Rho} {m : Mu} {x : RS} (h : whN test body k r m = some x) : (lim fun k => whN test body k r m) = some x := by
  have hs : ∃ n, (whN test body n r m).isSome := ⟨k, by rw [h]; rfl⟩
  unfold lim
  rw [dif_pos hs]
  have := Classical.choose_spec hs
  obtain ⟨y, hy⟩ := Option.isSome_iff_exists.mp this
  have h1 := whN_le h (Nat.le_max_left k (Classical.choose hs))
  have h2 := whN_le hy (Nat.le_max_right k (Classical.choose hs))
  show whN test body (Classical.choose hs) r m = some x
  rw [hy, ← h1, h2]
theorem whl_inv {test : Rho → Mu → Option R} {body : Rho → Mu → Option RS} (I : Nat → Rho → Mu → Prop) (Q : Option RS → Prop)
    (step : ∀ n r m, I n r m → ∃ b f m1, test r m = some (.ok (.val (.bl b)) f m1) ∧ (b = false → Q (some (.nx r m1))) ∧ (b = true →
      outF (body r m1) (fun r2 m2 => ∃ n', n' < n ∧ I n' r2 m2) Q)) :
    ∀ (n : Nat) (r : Rho) (m : Mu), I n r m → Q (lim fun k => whN test body k r m) := by
  have key : ∀ (n : Nat) (r : Rho) (m : Mu), I n r m → ∃ k x, whN test body k r m = some x ∧ Q (some x) := by
    intro n
    induction n using Nat.strongRecOn with
    | _ n ih =>
      intro r m h
      obtain ⟨b, f, m1, ht, h0, h1⟩ := step n r m h
      cases b with
      | false => exact ⟨1, _, by rw [whN, ht]; rfl, h0 rfl⟩
      | true =>
        have h1 := h1 rfl
        cases e : body r m1 with
        | none => rw [e] at h1; exact h1.elim
        | some y =>
          rw [e] at h1
          cases y with
          | nx r2 m2 =>
            obtain ⟨n', hn, i⟩ := h1
            obtain ⟨k, x, hk, hq⟩ := ih n' hn r2 m2 i
            exact ⟨k + 1, x, by rw [whN, ht]; simp [e, hk], hq⟩
          | bk r2 m2 => exact ⟨1, _, by rw [whN, ht]; simp [e], h1⟩
          | rt t f m2 => exact ⟨1, _, by rw [whN, ht]; simp [e], h1⟩
          | ex e2 r2 m2 => exact ⟨1, _, by rw [whN, ht]; simp [e], h1⟩
  intro n r m h
  obtain ⟨k, x, hk, hq⟩ := key n r m h
  rw [lim_wh hk]; exact hq
theorem whE_inv {c : Cz} {nn : Nat} {t : E} {b : List S} (I : Nat → Rho → Mu → Prop) (Q : Option RS → Prop)
    (step : ∀ n r m, I n r m → ∃ k f m1, ev c t r m = some (.ok (.val (.bl k)) f m1) ∧ (k = false → Q (some (.nx r m1))) ∧ (k = true →
      outF (execs c nn b r m1) (fun r2 m2 => ∃ n', n' < n ∧ I n' r2 m2) Q)) (n : Nat) (r : Rho) (m : Mu) (h : I n r m) : Q (whE c nn t b r m) :=
  whl_inv (test := fun r m => ev c t r m) (body := fun r m => execs c nn b r m) I Q step n r m h
theorem zipD_map {α β : Type} (f : α → D) (g : β → D) : ∀ (l : List α) (l' : List β), zipD (l.map f) (l'.map g) = (l.zip l').map fun p => .tup [f p.1, g p.2]
  | [], l' => by cases l' <;> rfl
  | x :: l, [] => rfl
  | x :: l, y :: l' => by simp [zipD, zipD_map f g l l']
theorem boolsOf_map {α : Type} (p : α → Bool) : ∀ l : List α, boolsOf (l.map fun x => .bl (p x)) = some (l.map p)
  | [] => rfl
  | x :: l => by simp [boolsOf, boolsOf_map p l]
theorem intsOf_map {α : Type} (p : α → Int) : ∀ l : List α, intsOf (l.map fun x => .int (p x)) = some (l.map p)
  | [] => rfl
  | x :: l => by simp [intsOf, intsOf_map p l]
theorem all_lst {α : Type} (p : α → Bool) (l : List α) : blt .all [.lst (l.map fun x => .bl (p x))] = some (.bl (l.all p), false) := by
  simp [blt, seqD, boolsOf_map, Function.comp_def]
theorem any_lst {α : Type} (p : α → Bool) (l : List α) : blt .any [.lst (l.map fun x => .bl (p x))] = some (.bl (l.any p), false) := by
  simp [blt, seqD, boolsOf_map, Function.comp_def]
theorem sum_lst {α : Type} (p : α → Int) (l : List α) : blt .sum [.lst (l.map fun x => .int (p x))] = some (.int (l.map p).sum, false) := by
  simp [blt, seqD, intsOf_map]
@[simp] theorem blt_tuple (xs : List D) : blt .tuple [.lst xs] = some (.tup xs, false) := rfl
@[simp] theorem blt_tuple' (xs : List D) : blt .tuple [.tup xs] = some (.tup xs, false) := rfl
@[simp] theorem blt_list (xs : List D) : blt .list [.lst xs] = some (.lst xs, true) := rfl
@[simp] theorem blt_list' (xs : List D) : blt .list [.tup xs] = some (.lst xs, true) := rfl
@[simp] theorem blt_len (xs : List D) : blt .len [.tup xs] = some (.int xs.length, false) := rfl
@[simp] theorem blt_lenL (xs : List D) : blt .len [.lst xs] = some (.int xs.length, false) := rfl
@[simp] theorem rds_nil (m : Mu) : rds m [] = some [] := rfl
@[simp] theorem rds_val (m : Mu) (d : D) (ts : List T) : rds m (.val d :: ts) = (rds m ts).map (d :: ·) := rfl
@[simp] theorem tks_nil (m : Mu) : tks m [] = some ([], m) := rfl
@[simp] theorem tks_val (m : Mu) (d : D) (ts : List T) : tks m (.val d :: ts) = (tks m ts).map fun q => (d :: q.1, q.2) := rfl
@[simp] theorem valsT_nil : valsT [] = some [] := rfl
@[simp] theorem valsT_val (d : D) (ts : List T) : valsT (.val d :: ts) = (valsT ts).map (d :: ·) := rfl
@[simp] theorem revD_lst (xs : List D) : revD (.lst xs) = some (.lst xs.reverse, true) := rfl
@[simp] theorem revD_tup (xs : List D) : revD (.tup xs) = some (.tup xs.reverse, false) := rfl
@[simp] theorem pick_nil {α : Type} (xs : List α) : pick xs [] = some [] := rfl
@[simp] theorem pick_cons {α : Type} (xs : List α) (i : Nat) (is : List Nat) : pick xs (i :: is) = obq (xs[i]?) fun x => (pick xs is).map (x :: ·) := rfl
@[simp] theorem wipeR_nil (r : Rho) : wipeR r [] = r := rfl
@[simp] theorem wipeR_cons (r : Rho) (i : Nat) (is : List Nat) : wipeR r (i :: is) = (wipeR r is).set i none := rfl
@[simp] theorem negD_int (i : Int) : negD (.int i) = some (.int (-i)) := rfl
theorem slc_from (xs : List D) (i : Nat) : slcB true false (.tup xs) [.int i] = some (.tup (xs.drop i), false) := by
  simp [slcB, slcD, sx, cutL]
  rw [if_neg (by omega)]
  rcases Nat.le_total i xs.length with h | h
  · rw [Nat.min_eq_left h, List.take_of_length_le (by simp)]
  · rw [Nat.min_eq_right h]; simp [List.drop_of_length_le h]
theorem slc_to (xs : List D) (i : Nat) : slcB false true (.tup xs) [.int i] = some (.tup (xs.take i), false) := by
  simp [slcB, slcD, sx, cutL]
  rw [if_neg (by omega)]
  rcases Nat.le_total i xs.length with h | h
  · rw [Nat.min_eq_left h, Nat.min_eq_left h]
  · rw [Nat.min_eq_right h]; simp [List.take_of_length_le h]
@[simp] theorem slc_1 (xs : List D) : slcB true false (.tup xs) [.int 1] = some (.tup (xs.drop 1), false) := slc_from xs 1
@[simp] theorem slc_m1 (xs : List D) : slcB false true (.tup xs) [.int (-1)] = some (.tup xs.dropLast, false) := by
  simp [slcB, slcD, sx, cutL, List.dropLast_eq_take]
  congr 1
  omega
@[simp] theorem idx_last (xs : List D) (x : D) : idxD (.tup (xs ++ [x])) (.int (-1)) = some x := by
  have e : (-1 + ((xs.length : Int) + 1)).toNat = xs.length := by omega
  have e2 : (1 : Int) ≤ (xs.length : Int) + 1 := by omega
  simp [idxD, atD, ixN, e, e2]
section
variable {α : Type} {c : Cz} {elt cd : E} {a : Option Nat} {r : Rho} {m : Mu} {l : List α}
/-- [elt for x in l] -/
theorem cmpE_map (φ ψ : α → D) (i : Nat) (he : ∀ x ∈ l, ∃ f, ev c elt (r.set i (some (.val (φ x)))) m = some (.ok (.val (ψ x)) f m)) (hl : l.length ≤ line) :
    cmpE c (.one i) [] elt a r (l.map φ) m = some (.ok (.val (.lst (l.map ψ))) true m) := cmpL_map φ ψ i he hl
theorem cmpE_if (φ ψ : α → D) (p : α → Bool) (i : Nat) (hc : ∀ x ∈ l, ∃ f, ev c cd (r.set i (some (.val (φ x)))) m = some (.ok (.val (.bl (p x))) f m)) (he : ∀ x ∈ l, p x = true → ∃ f, ev c elt (r.set i (some (.val (φ x)))) m = some (.ok (.val (ψ x)) f m)) (hl : l.length ≤ line) :
    cmpE c (.one i) [cd] elt a r (l.map φ) m = some (.ok (.val (.lst ((l.filter p).map ψ))) true m) := cmpL_if φ ψ p i hc he hl
theorem cmpE_map2 (φ1 φ2 ψ : α → D) (i j : Nat) (he : ∀ x ∈ l, ∃ f, ev c elt ((r.set i (some (.val (φ1 x)))).set j (some (.val (φ2 x)))) m = some (.ok (.val (ψ x)) f m)) (hl : l.length ≤ line) :
    cmpE c (.many [i, j]) [] elt a r (l.map fun x => .tup [φ1 x, φ2 x]) m = some (.ok (.val (.lst (l.map ψ))) true m) := by
  unfold cmpE
  rw [cmpL_typed (fun x => .tup [φ1 x, φ2 x]) ψ (fun _ => true) (fun x => (r.set i (some (.val (φ1 x)))).set j (some (.val (φ2 x)))) l [] (fun x _ => rfl) (fun x _ => ⟨false, by rw [evC]; rfl⟩) (fun x hx _ => he x hx) (by simpa using hl)]
  rw [List.filter_eq_self.2 (fun _ _ => rfl), List.nil_append]
end
end PM

set_option linter.all false
set_option maxRecDepth 100000
/-! MiH -/
namespace PM
open PY
open PySem (Str Operator CmpOp)
@[simp] theorem get_app {α : Type} (m l : List α) : (m ++ l)[m.length]? = l[0]? := by rw [List.getElem?_append_right (by omega)]; simp
@[simp] theorem get_app1 {α : Type} (m l : List α) (i : Nat) : (m ++ l)[m.length + i]? = l[i]? := by rw [List.getElem?_append_right (by omega)]; simp
@[simp] theorem set_app {α : Type} (m l : List α) (x : α) : (m ++ l).set m.length x = m ++ l.set 0 x := by rw [List.set_append_right _ _ (by omega)]; simp
@[simp] theorem set_app1 {α : Type} (m l : List α) (i : Nat) (x : α) : (m ++ l).set (m.length + i) x = m ++ l.set i x := by rw [List.set_append_right _ _ (by omega)]; simp
@[simp] theorem rd_loc (m : Mu) (n : Nat) : rd m (.loc n) = (m[n]?).map Ob.d := rfl
@[simp] theorem rds_loc (m : Mu) (n : Nat) (ts : List T) : rds m (.loc n :: ts) = obq ((m[n]?).map Ob.d) fun d => (rds m ts).map (d :: ·) := rfl
@[simp] theorem ob_lst (xs : List D) : Ob.d (.lst xs) = .lst xs := rfl
@[simp] theorem ob_frz (d : D) : Ob.d (.frz d) = d := rfl
def appO (v : D) (q : Nat) (r : Rho) (m : Mu) (o : Option Ob) : Option RS := match o with
  | some (.lst xs) => two (decide (xs.length < line)) (some (.nx r (m.set q (.lst (xs ++ [v]))))) none
  | _ => none
@[simp] theorem appT_v (v : D) (q : Nat) (r : Rho) (m : Mu) : appT (.val v) q r m = appO v q r m m[q]? := by
  unfold appT appO two
  cases m[q]? with
  | none => rfl
  | some o => cases o <;> simp
@[simp] theorem appO_lst (v : D) (q : Nat) (r : Rho) (m : Mu) (xs : List D) : appO v q r m (some (.lst xs)) = two (decide (xs.length < line)) (some (.nx r (m.set q (.lst (xs ++ [v]))))) none := rfl
@[simp] theorem le_line {n : Nat} (h : n ≤ 1000) : n ≤ line := by simp [line]; omega
@[simp] theorem lt_line {n : Nat} (h : n ≤ 1000) : n < line := by simp [line]; omega
def cellO (k : Nat) (o : Option Ob) : Option Nat := match o with | some (.lst _) => some k | _ => none
@[simp] theorem cellO_lst (k : Nat) (xs : List D) : cellO k (some (.lst xs)) = some k := rfl
def cellT (m : Mu) (t : Option T) : Option Nat := match t with | some (.loc k) => cellO k m[k]? | _ => none
@[simp] theorem cellT_loc (m : Mu) (k : Nat) : cellT m (some (.loc k)) = cellO k m[k]? := rfl
@[simp] theorem cellAt_eq (r : Rho) (m : Mu) (i : Nat) : cellAt r m i = cellT m (getV r i) := by
  unfold cellAt cellT cellO; rfl
@[simp] theorem lock_none (n : Nat) : lock n none = n := rfl
@[simp] theorem lock_some (n k : Nat) : lock n (some k) = max n (k + 1) := rfl
@[simp] theorem take_app {α : Type} (m l : List α) : (m ++ l).take m.length = m := by simp
@[simp] theorem obOf_lst (xs : List D) : obOf (.lst xs) = some (.lst xs) := rfl
@[simp] theorem obOf_tup (xs : List D) : obOf (.tup xs) = none := rfl
@[simp] theorem obOf_int (i : Int) : obOf (.int i) = none := rfl
@[simp] theorem obOf_bl (i : Bool) : obOf (.bl i) = none := rfl
@[simp] theorem obOf_non : obOf .non = none := rfl
@[simp] theorem obOf_str (i : Str) : obOf (.str i) = none := rfl
@[simp] theorem putN_lst (i : Nat) (xs : List D) (r : Rho) (m : Mu) : putN i (.val (.lst xs)) true r m = if i < r.length then some (r.set i (some (.loc m.length)), m ++ [.lst xs]) else none := rfl
@[simp] theorem putP_nil (r : Rho) (m : Mu) : putP [] [] [] r m = some (r, m) := rfl
@[simp] theorem putP_cell (i : Nat) (is : List Nat) (cs : List Bool) (t : T × Bool) (ts : List (T × Bool)) (r : Rho) (m : Mu) : putP (i :: is) (true :: cs) (t :: ts) r m = obq (putN i t.1 t.2 r m) fun p => putP is cs ts p.1 p.2 := rfl
@[simp] theorem putP_val (i : Nat) (is : List Nat) (cs : List Bool) (t : T × Bool) (ts : List (T × Bool)) (r : Rho) (m : Mu) : putP (i :: is) (false :: cs) (t :: ts) r m = obq (putV 0 i t.1 r m) fun p => putP is cs ts p.1 p.2 := rfl
/-- a new list into a name -/
def putK (n i : Nat) (o : Ob) (r : Rho) (m : Mu) (t : Option T) : Option (Rho × Mu) := match t with
  | some (.loc k) => if decide (n ≤ k) && decide (k < m.length) && others r i k then some (r, m.set k o) else some (r.set i (some (.loc m.length)), m ++ [o])
  | _ => some (r.set i (some (.loc m.length)), m ++ [o])
@[simp] theorem putK_loc (n i : Nat) (o : Ob) (r : Rho) (m : Mu) (k : Nat) : putK n i o r m (some (.loc k)) = if decide (n ≤ k) && decide (k < m.length) && others r i k then some (r, m.set k o) else some (r.set i (some (.loc m.length)), m ++ [o]) := rfl
@[simp] theorem putK_none (n i : Nat) (o : Ob) (r : Rho) (m : Mu) : putK n i o r m none = some (r.set i (some (.loc m.length)), m ++ [o]) := rfl
@[simp] theorem putK_val (n i : Nat) (o : Ob) (r : Rho) (m : Mu) (d : D) : putK n i o r m (some (.val d)) = some (r.set i (some (.loc m.length)), m ++ [o]) := rfl
@[simp] theorem putC_lst (n i : Nat) (xs : List D) (r : Rho) (m : Mu) : putC n i (.val (.lst xs)) true r m = if i < r.length then putK n i (.lst xs) r m (getV r i) else none := by
  simp only [putC, obOf_lst, if_true]; unfold putK
  split
  · cases getV r i with
    | none => rfl
    | some t => cases t <;> rfl
  · rfl
@[simp] theorem putC_loc (n i k : Nat) (f : Bool) (r : Rho) (m : Mu) : putC n i (.loc k) f r m = if i < r.length then some (r.set i (some (.loc k)), m) else none := rfl
@[simp] theorem putC_int (n i : Nat) (f : Bool) (r : Rho) (m : Mu) (x : Int) : putC n i (.val (.int x)) f r m = if i < r.length then some (r.set i (some (.val (.int x))), m) else none := rfl
@[simp] theorem putC_tup (n i : Nat) (f : Bool) (r : Rho) (m : Mu) (x : List D) : putC n i (.val (.tup x)) f r m = if i < r.length then some (r.set i (some (.val (.tup x))), m) else none := rfl
def subO (j v : D) (q : Nat) (r : Rho) (m2 : Mu) (o : Option Ob) : Option RS := match o with
  | some (.lst xs) => (setL xs j v).map fun ys => .nx r (m2.set q (.lst ys))
  | _ => none
@[simp] theorem subO_lst (j v : D) (q : Nat) (r : Rho) (m2 : Mu) (xs : List D) : subO j v q r m2 (some (.lst xs)) = (setL xs j v).map fun ys => .nx r (m2.set q (.lst ys)) := rfl
def subU (t2 : T) (v : D) (q : Nat) (r : Rho) (m2 : Mu) : Option RS := match t2 with
  | .val j => subO j v q r m2 m2[q]?
  | _ => none
@[simp] theorem subU_val (j v : D) (q : Nat) (r : Rho) (m2 : Mu) : subU (.val j) v q r m2 = subO j v q r m2 m2[q]? := rfl
def subT (t : T) (x : Option R) (q : Nat) (r : Rho) : Option RS := match t with
  | .val v => bnqS x r fun t2 _ m2 => subU t2 v q r m2
  | _ => none
@[simp] theorem subT_val (v : D) (x : Option R) (q : Nat) (r : Rho) : subT (.val v) x q r = bnqS x r fun t2 _ m2 => subU t2 v q r m2 := rfl
@[simp] theorem exec_sub (c : Cz) (n : Nat) (r : Rho) (m : Mu) (i : Nat) (k e : E) : exec c n (.sub i k e) r m = obq (cellAt r m i) fun q => bnqS (ev c e r m) r fun t _ m1 => subT t (ev c k r m1) q r := by
  rw [exec]
  congr; funext q; congr; funext t f m1
  cases t with
  | loc n => rfl
  | val v =>
    simp only [subT_val]
    congr; funext t2 f2 m2
    cases t2 with
    | loc n => rfl
    | val j =>
      simp only [subU_val]
      cases m2[q]? with
      | none => rfl
      | some o => cases o <;> rfl
def extO (ys : List D) (q : Nat) (r : Rho) (m : Mu) (o : Option Ob) : Option RS := match o with
  | some (.lst xs) => two (decide (xs.length + ys.length ≤ line)) (some (.nx r (m.set q (.lst (xs ++ ys))))) none
  | _ => none
@[simp] theorem extO_lst (ys : List D) (q : Nat) (r : Rho) (m : Mu) (xs : List D) : extO ys q r m (some (.lst xs)) = two (decide (xs.length + ys.length ≤ line)) (some (.nx r (m.set q (.lst (xs ++ ys))))) none := rfl
def extT (f : Bool) (t : T) (q : Nat) (r : Rho) (m1 : Mu) : Option RS := match f, t, m1[q]? with
    | true, .val (.lst ys), some (.lst xs) => if xs.length + ys.length ≤ line then some (.nx r (m1.set q (.lst (xs ++ ys)))) else none
    | _, _, _ => none
@[simp] theorem extT_lst (ys : List D) (q : Nat) (r : Rho) (m1 : Mu) : extT true (.val (.lst ys)) q r m1 = extO ys q r m1 m1[q]? := by
  unfold extT extO two
  cases m1[q]? with
  | none => rfl
  | some o => cases o <;> simp
@[simp] theorem exec_ext (c : Cz) (n : Nat) (r : Rho) (m : Mu) (i : Nat) (e : E) : exec c n (.ext i e) r m = obq (cellAt r m i) fun q => bnqS (ev c e r m) r fun t f m1 => extT f t q r m1 := by rw [exec]; rfl
@[simp] theorem setL_int (xs : List D) (k : Int) (v : D) : setL xs (.int k) v = (ixN xs.length k).map fun j => xs.set j v := rfl
theorem bop_mul {i j : Int} (h : mulOk i j = true) : bop .Mult (.int i) (.int j) = some (.int (i * j), false) := by
  simp only [bop, h, if_true]
theorem bop_mulS {i j : Int} (h : j.natAbs < 2 ^ 64) : bop .Mult (.int i) (.int j) = some (.int (i * j), false) := bop_mul (by simp only [mulOk, h, decide_true, Bool.or_true, Bool.true_or])
theorem bop_mulM {i j : Int} (h : i.natAbs < 2 ^ 4096) (g : j.natAbs < 2 ^ 4096) : bop .Mult (.int i) (.int j) = some (.int (i * j), false) := bop_mul (by simp only [mulOk, h, g, decide_true, Bool.or_true, Bool.and_true])
theorem bop_div {i j : Int} (h : 0 < j) (g : j.toNat < 2 ^ 1024) : bop .FloorDiv (.int i) (.int j) = some (.int (i / j), false) := by
  simp only [bop, divOk, h, g, decide_true, Bool.and_true, if_true]
theorem bop_mod {i j : Int} (h : 0 < j) : bop .Mod (.int i) (.int j) = some (.int (i % j), false) := by
  simp only [bop, h, decide_true, if_true]
@[simp] theorem blt_int (i : Int) : blt .int [.int i] = some (.int i, false) := rfl
@[simp] theorem blt_int' (b : Bool) : blt .int [.bl b] = some (.int (if b then 1 else 0), false) := rfl
@[simp] theorem blt_abs (i : Int) : blt .abs [.int i] = some (.int (if i < 0 then -i else i), false) := rfl
@[simp] theorem blt_max2 (i j : Int) : blt .max [.int i, .int j] = some (.int (if i < j then j else i), false) := rfl
@[simp] theorem blt_min2 (i j : Int) : blt .min [.int i, .int j] = some (.int (if j < i then j else i), false) := rfl
theorem idx_0 (x : D) (xs : List D) : idxD (.lst (x :: xs)) (.int 0) = some x := by simp [idxD, atD, ixN]
theorem idx_1 (x y : D) (xs : List D) : idxD (.lst (x :: y :: xs)) (.int 1) = some y := by
  simp [idxD, atD, ixN]; rw [if_pos (by omega)]; simp
theorem idx_2 (x y z : D) (xs : List D) : idxD (.lst (x :: y :: z :: xs)) (.int 2) = some z := by
  simp [idxD, atD, ixN]; rw [if_pos (by omega)]; simp
theorem lt4096 {i : Int} (h : 0 ≤ i) (g : i < 10 ^ 40) : i.natAbs < 2 ^ 4096 := by
  have h1 : i.natAbs < 10 ^ 40 := by omega
  have h2 : (10 : Nat) ^ 40 ≤ 2 ^ 160 := by decide
  exact Nat.lt_of_lt_of_le h1 (Nat.le_trans h2 (Nat.pow_le_pow_right (by decide) (by decide)))
theorem bop_mulB {i j : Int} (h : 0 ≤ i) (g : i < 10 ^ 40) (h' : 0 ≤ j) (g' : j < 10 ^ 40) : bop .Mult (.int i) (.int j) = some (.int (i * j), false) := bop_mulM (lt4096 h g) (lt4096 h' g')
theorem bop_divS {i j : Int} (h : 0 < j) (g : j ≤ 1000000000000000) : bop .FloorDiv (.int i) (.int j) = some (.int (i / j), false) := by
  refine bop_div h ?_
  have h1 : j.toNat < 2 ^ 60 := by omega
  exact Nat.lt_of_lt_of_le h1 (Nat.pow_le_pow_right (by decide) (by decide))
theorem bop_mulR {i : Int} {n : Nat} (h : n < 18446744073709551616) : bop .Mult (.int i) (.int (OfNat.ofNat n)) = some (.int (i * OfNat.ofNat n), false) := bop_mulS (by
  show (n : Int).natAbs < 2 ^ 64
  rw [Int.natAbs_natCast]; exact h)
theorem forE_rng {tg : Tg} {c : Cz} {n' : Nat} {b : List S} {a : Option Nat} {lo : Int} (I : Nat → Rho → Mu → Prop) (Q : Option RS → Prop) (n : Nat)
    (step : ∀ i r m, i < n → I i r m → ∃ r1, bindT tg (.int (lo + i)) r = some r1 ∧ outF (execs c (lock n' a) b r1 m) (fun r2 m2 => still a m m2 = true ∧ I (i + 1) r2 m2) Q)
    (done : ∀ r m, I n r m → Q (some (.nx r m))) (r : Rho) (m : Mu) (h : I 0 r m) : Q (forE c n' tg b a (rngL lo n) r m) := by
  have key : ∀ (k i : Nat) (r : Rho) (m : Mu), i + k = n → I i r m → Q (forE c n' tg b a (rngL (lo + i) k) r m) := by
    intro k
    induction k with
    | zero => intro i r m h hi; rw [Nat.add_zero] at h; subst h; exact done r m hi
    | succ k ih =>
      intro i r m h hi
      obtain ⟨r1, h1, h2⟩ := step i r m (by omega) hi
      rw [rngL, forE, forL, h1, Option.bind_some]
      cases e : execs c (lock n' a) b r1 m with
      | none => rw [e] at h2; exact h2.elim
      | some y =>
        rw [e] at h2
        cases y with
        | nx r2 m2 =>
          simp only [e, h2.1, if_true]
          have := ih (i + 1) r2 m2 (by omega) h2.2
          rw [show lo + ((i + 1 : Nat) : Int) = lo + i + 1 by omega] at this
          exact this
        | bk r2 m2 => simp only [e]; exact h2
        | rt t f m2 => simp only [e]; exact h2
        | ex e2 r2 m2 => simp only [e]; exact h2
  have := key n 0 r m (by omega) h
  simpa using this
@[simp] theorem rngOf_1 (n : Nat) (h : n < 2 ^ 62) : rngOf [.int n] = some (rngL 0 n) := by
  have h1 : (decide (-(2 ^ 62 : Int) < (n : Int)) && decide ((n : Int) < 2 ^ 62)) = true := by
    simp only [Bool.and_eq_true, decide_eq_true_eq]; omega
  simp only [rngOf, h1, if_true, Int.toNat_natCast]
theorem rngL_range : ∀ (n : Nat) (lo : Int), rngL lo n = (List.range n).map fun i => .int (lo + (i : Nat))
  | 0, lo => rfl
  | n + 1, lo => by
    rw [rngL, rngL_range n (lo + 1), List.range_succ_eq_map]
    simp [Function.comp_def]
    intro a _; omega
/-- the statements of a body, one behind another one -/
def nthS (l : List S) (i : Nat) : S := l.getD i .bad
@[simp] theorem nthS_zero (x : S) (l : List S) : nthS (x :: l) 0 = x := rfl
@[simp] theorem nthS_succ (x : S) (l : List S) (i : Nat) : nthS (x :: l) (i + 1) = nthS l i := rfl
def restS (l : List S) (i : Nat) : List S := l.drop i
theorem execs_drop {c : Cz} {n : Nat} {r : Rho} {m : Mu} (l : List S) (i : Nat) (h : i < l.length) : execs c n (restS l i) r m = seqS (exec c n (nthS l i) r m) fun r1 m1 => execs c n (restS l (i + 1)) r1 m1 := by
  have e : restS l i = l[i] :: restS l (i + 1) := List.drop_eq_getElem_cons h
  rw [e, execs_cons]
  have e2 : nthS l i = l[i] := by simp [nthS, List.getD, h]
  rw [e2]
theorem execs_start {c : Cz} {n : Nat} {r : Rho} {m : Mu} (l : List S) : execs c n l r m = execs c n (restS l 0) r m := rfl
/-- a body, its statements one by one -/
theorem body_at {b b' : List S} (h : b = b') (i : Nat) : nthS b i = nthS b' i := by rw [h]
end PM

set_option linter.all false
set_option maxRecDepth 100000
/-! Fk04 -/
namespace Fk04
open PM PY
open PySem (Str)
def f__law_well : Fd := ⟨["script", "k"], 6, [(.set 2 (.ife (.cmp .Lt (.var 1) (.blt .len [(.var 0)])) (.blt .int [(.idx (.var 0) (.var 1))]) (.bin .Add (.bin .Mult (.con (.int 821)) (.var 1)) (.con (.int 757))))), (.set 3 (.bin .Add (.con (.int 797)) (.blt .len [(.var 0)]))), (.for (.one 4) (.var 0) [(.set 3 (.bin .Mod (.blt .int [(.bin .Add (.bin .Mult (.var 3) (.con (.int 5323))) (.bin .Mod (.blt .int [(.var 4)]) (.bin .Add (.bin .Pow (.con (.int 10)) (.con (.int 19))) (.con (.int 51)))))]) (.bin .Add (.bin .Pow (.con (.int 10)) (.con (.int 25))) (.con (.int 13)))))]), (.set 5 (.bin .Mod (.blt .int [(.bin .Add (.bin .Add (.bin .Add (.bin .Mult (.blt .abs [(.var 2)]) (.con (.int 259))) (.bin .Mult (.var 3) (.con (.int 281)))) (.bin .Mult (.con (.int 3)) (.blt .int [(.cmp .Lt (.var 2) (.con (.int 0)))]))) (.bin .Mult (.con (.int 61)) (.var 1)))]) (.bin .Add (.bin .Pow (.con (.int 10)) (.con (.int 28))) (.con (.int 331))))), (.ret (.lst [(.blt .max [(.con (.int 0)), (.bin .Sub (.blt .abs [(.var 2)]) (.bin .Pow (.con (.int 10)) (.con (.int 18))))]), (.var 5), (.con (.int 0))]))]⟩
def f__law_told : Fd := ⟨["way", "first", "second", "third"], 8, [(.set 4 (.con .non)), (.trk [(.ite (.cmp .Eq (.var 0) (.con (.int 0))) [(.ex (.call "head" [(.var 1), (.var 2)] [0, 1]))] [(.ite (.cmp .Eq (.var 0) (.con (.int 1))) [(.ex (.call "rest" [(.var 1), (.var 2)] [0, 1]))] [(.ite (.cmp .Eq (.var 0) (.con (.int 2))) [(.ex (.call "stands" [(.var 1), (.var 2), (.var 3)] [0, 1, 2]))] [(.ite (.cmp .Eq (.var 0) (.con (.int 3))) [(.ex (.call "both" [(.var 2), (.var 3)] [0, 1]))] [(.ite (.cmp .Eq (.var 0) (.con (.int 4))) [(.ex (.call "implies" [(.var 2), (.var 3)] [0, 1]))] [(.ex (.call "all_of" [(.var 2)] [0]))])])])])])] "WormsError" 5 4), (.set 6 (.lst [(.isc (.var 4) "InvalidWorm"), (.isc (.var 4) "InvalidNumber")])), (.ret (.ife (.cmp .Is (.var 4) (.con .non)) (.con .non) (.tup [(.cmpr (.var 7) (.one 7) (.rng [(.con (.int 2))]) [(.idx (.var 6) (.var 7))] [7]), (.blt .repr [(.fld (.var 4))])])))]⟩
def f__law_refused : Fd := ⟨["well", "worm"], 5, [(.set 2 (.idx (.lst [(.con .non), (.blt .list [(.var 1)]), (.bin .Add (.var 1) (.tup [(.con (.int 7))])), (.tup [(.con (.bl true))]), (.con (.int 0))]) (.call "_law_draw" [(.var 0), (.con (.int 5))] [0, 1]))), (.ite (.cmp .NotEq (.cmpr (.call "_law_told" [(.var 3), (.var 4), (.var 2), (.con .non)] [0, 1, 2, 3]) (.many [3, 4]) (.tup [(.tup [(.con (.int 0)), (.neg (.con (.int 1)))]), (.tup [(.con (.int 1)), (.con (.int 8))]), (.tup [(.con (.int 2)), (.con (.int 7))])]) [] [3, 4]) (.cmpr (.tup [(.lst [(.con (.int 1))]), (.var 4)]) (.one 4) (.tup [(.con (.str "-1")), (.con (.str "8")), (.con (.str "7"))]) [] [4])) [(.ret (.con (.bl false)))] []), (.ite (.or (.cmp .NotEq (.cmpr (.call "_law_told" [(.var 3), (.con (.int 0)), (.var 2), (.con .non)] [0, 1, 2, 3]) (.one 3) (.rng [(.con (.int 5))]) [] [3]) (.bin .Mult (.lst [(.tup [(.lst [(.con (.int 0))]), (.blt .repr [(.var 2)])])]) (.con (.int 5)))) (.cmp .NotEq (.cmpr (.call "_law_told" [(.var 3), (.con (.int 0)), (.var 1), (.var 2)] [0, 1, 2, 3]) (.one 3) (.tup [(.con (.int 2)), (.con (.int 3)), (.con (.int 4))]) [] [3]) (.bin .Mult (.lst [(.tup [(.lst [(.con (.int 0))]), (.blt .repr [(.var 2)])])]) (.con (.int 3))))) [(.ret (.con (.bl false)))] []), (.ite (.cmp .NotEq (.cmpr (.call "_law_told" [(.con (.int 5)), (.con .non), (.var 4), (.con .non)] [0, 1, 2, 3]) (.one 4) (.tup [(.var 2), (.tup [(.var 2)]), (.lst [(.var 1)])]) [] [4]) (.cmpr (.tup [(.lst [(.con (.int 0))]), (.blt .repr [(.var 4)])]) (.one 4) (.tup [(.var 2), (.tup [(.var 2)]), (.lst [(.var 1)])]) [] [4])) [(.ret (.con (.bl false)))] []), (.ret (.and (.cmp .Eq (.call "_law_told" [(.con (.int 2)), (.con (.int 1)), (.tup [(.con (.int 1))]), (.tup [(.con (.int 1)), (.con (.int 0))])] [0, 1, 2, 3]) (.tup [(.lst [(.con (.int 0))]), (.con (.str "(1, 0)"))])) (.cmp .Eq (.call "_law_told" [(.con (.int 2)), (.con (.int 1)), (.tup [(.con (.int 0))]), (.con .non)] [0, 1, 2, 3]) (.tup [(.lst [(.con (.int 0))]), (.con (.str "(0,)"))]))))]⟩
def f__law_right : Fd := ⟨["well"], 19, [(.set 1 (.idx (.lst [(.con (.int 1)), (.con (.int 2)), (.con (.int 3))]) (.call "_law_draw" [(.var 0), (.con (.int 3))] [0, 1]))), (.par [2, 3, 4] [false, false, false] [(.call "_law_worm" [(.var 0), (.con (.int 6)), (.var 1)] [0, 1, 2]), (.call "_law_worm" [(.var 0), (.con (.int 6)), (.var 1)] [0, 1, 2]), (.call "_law_worm" [(.var 0), (.con (.int 4)), (.var 1)] [0, 1, 2])]), (.set 5 (.call "_law_draw" [(.var 0), (.con (.int 4))] [0, 1])), (.set 6 (.con (.int 0))), (.whl (.and (.cmp .Lt (.var 6) (.blt .len [(.var 2)])) (.cmp .GtE (.idx (.var 2) (.var 6)) (.var 5))) [(.set 6 (.bin .Add (.var 6) (.con (.int 1))))]), (.ite (.cmp .NotEq (.blt .repr [(.lst [(.call "head" [(.var 5), (.var 2)] [0, 1]), (.call "head" [(.var 2), (.var 5)] [1, 0]), (.call "rest" [(.var 5), (.var 2)] [0, 1]), (.call "rest" [(.var 2), (.var 5)] [1, 0])])]) (.blt .repr [(.bin .Add (.bin .Mult (.lst [(.slc false true (.var 2) [(.var 6)])]) (.con (.int 2))) (.bin .Mult (.lst [(.slc true false (.var 2) [(.var 6)])]) (.con (.int 2))))])) [(.ret (.con (.bl false)))] []), (.set 7 (.call "both" [(.var 2), (.var 3)] [0, 1])), (.ite (.or (.cmp .NotEq (.blt .repr [(.lst [(.var 7), (.call "both" [(.var 2), (.var 3)] [1, 0])])]) (.blt .repr [(.bin .Mult (.lst [(.call "_law_worm_of" [(.call "_law_order" [(.var 7)] [0])] [0])]) (.con (.int 2)))])) (.or (.not (.call "_law_implies" [(.var 7), (.var 2)] [0, 1])) (.or (.not (.call "_law_implies" [(.var 7), (.var 3)] [0, 1])) (.not (.call "_law_greatest" [(.var 2), (.var 3), (.var 7)] [0, 1, 2]))))) [(.ret (.con (.bl false)))] []), (.par [8, 9] [false, false] [(.call "_law_heads" [(.var 2), (.con (.int 7))] [0, 1]), (.call "_law_heads" [(.var 3), (.con (.int 7))] [0, 1])]), (.set 10 (.call "_law_heads" [(.var 7), (.con (.int 7))] [0, 1])), (.ite (.or (.blt .any [(.cmpr (.call "_law_less" [(.var 11), (.var 12)] [0, 1]) (.many [11, 12]) (.zip (.var 10) (.var 8)) [] [11, 12])]) (.blt .any [(.cmpr (.call "_law_less" [(.var 11), (.var 12)] [0, 1]) (.many [11, 12]) (.zip (.var 10) (.var 9)) [] [11, 12])])) [(.ret (.con (.bl false)))] []), (.ite (.or (.cmp .NotEq (.call "both" [(.call "both" [(.var 2), (.var 3)] [0, 1]), (.var 4)] [0, 1]) (.call "both" [(.var 2), (.call "both" [(.var 4), (.var 3)] [0, 1])] [0, 1])) (.or (.cmp .NotEq (.call "both" [(.var 2), (.var 2)] [0, 1]) (.call "_law_worm_of" [(.call "_law_order" [(.var 2)] [0])] [0])) (.or (.cmp .NotEq (.call "all_of" [(.tup [(.var 2), (.var 3), (.var 4)])] [0]) (.call "both" [(.var 7), (.var 4)] [0, 1])) (.cmp .NotEq (.call "all_of" [(.tup [])] [0]) (.tup []))))) [(.ret (.con (.bl false)))] []), (.for (.many [11, 12]) (.tup [(.tup [(.var 2), (.var 3)]), (.tup [(.var 7), (.var 2)]), (.tup [(.var 2), (.var 7)]), (.tup [(.bin .Add (.tup [(.con (.int 0))]) (.var 2)), (.var 2)]), (.tup [(.var 2), (.bin .Add (.tup [(.con (.int 0))]) (.var 2))]), (.tup [(.var 2), (.var 2)])]) [(.set 13 (.call "_law_implies" [(.var 11), (.var 12)] [0, 1])), (.ite (.or (.cmp .NotEq (.blt .repr [(.lst [(.call "implies" [(.var 11), (.var 12)] [0, 1]), (.call "implies" [(.var 12), (.var 11)] [1, 0])])]) (.blt .repr [(.lst [(.var 13), (.var 13)])])) (.cmp .NotEq (.var 13) (.cmp .Eq (.call "both" [(.var 11), (.var 12)] [0, 1]) (.call "_law_worm_of" [(.call "_law_order" [(.var 11)] [0])] [0])))) [(.ret (.con (.bl false)))] [])]), (.set 14 (.blt .min [(.bin .Add (.bin .Add (.var 2) (.var 3)) (.tup [(.con (.int 6))]))])), (.par [15, 16] [false, false] [(.call "_law_order" [(.blt .tuple [(.cmpr (.bin .Sub (.var 17) (.var 14)) (.one 17) (.var 2) [] [17])])] [0]), (.call "_law_order" [(.blt .tuple [(.cmpr (.bin .Sub (.var 17) (.var 14)) (.one 17) (.var 3) [] [17])])] [0])]), (.set 13 (.ife (.call "_law_less" [(.var 15), (.var 16)] [0, 1]) (.neg (.con (.int 1))) (.ife (.call "_law_less" [(.var 16), (.var 15)] [0, 1]) (.con (.int 1)) (.con (.int 0))))), (.ite (.cmp .NotEq (.blt .repr [(.lst [(.call "stands" [(.var 14), (.var 2), (.var 3)] [0, 1, 2]), (.call "stands" [(.var 3), (.var 2), (.var 14)] [2, 1, 0]), (.call "stands" [(.var 14), (.var 3), (.var 2)] [0, 1, 2])])]) (.blt .repr [(.lst [(.var 13), (.var 13), (.neg (.var 13))])])) [(.ret (.con (.bl false)))] []), (.set 18 (.lst [(.call "_law_implies" [(.var 3), (.bin .Add (.tup [(.var 14)]) (.var 2))] [0, 1]), (.and (.call "_law_implies" [(.var 2), (.var 3)] [0, 1]) (.call "_law_implies" [(.var 3), (.var 2)] [0, 1])), (.call "_law_implies" [(.var 2), (.bin .Add (.tup [(.var 14)]) (.var 3))] [0, 1])])), (.ret (.and (.cmp .Eq (.var 18) (.lst [(.cmp .Eq (.var 13) (.neg (.con (.int 1)))), (.cmp .Eq (.var 13) (.con (.int 0))), (.cmp .Eq (.var 13) (.con (.int 1)))])) (.call "_law_refused" [(.var 0), (.var 2)] [0, 1])))]⟩
def f_law : Fd := ⟨["script"], 4, [(.for (.one 1) (.rng [(.blt .max [(.con (.int 1)), (.blt .min [(.con (.int 3)), (.blt .len [(.var 0)])])])]) [(.cell 2 (.call "_law_well" [(.var 0), (.var 1)] [0, 1])), (.for (.one 3) (.rng [(.con (.int 3))]) [(.ite (.not (.call "_law_right" [(.var 2)] [0])) [(.ret (.con (.bl false)))] [])])]), (.ret (.con (.bl true)))]⟩
end Fk04

set_option linter.all false
set_option maxRecDepth 100000
/-! MiI -/
namespace PM
open PY
open PySem (Str Operator CmpOp)
@[simp] theorem consL_ex (e : D) (m : Mu) (k : Mu → Option RL) : consL (some (.ex e m)) k = some (.ex e m) := rfl
@[simp] theorem putL_ex (t : T) (e : D) (m : Mu) : putL t (some (.ex e m)) = some (.ex e m) := rfl
@[simp] theorem bndI_ex (e : D) (m : Mu) (k : List D → Option Nat → Mu → Option R) : bndI (some (.ex e m)) k = some (.ex e m) := rfl
@[simp] theorem bndJ_ex (e : D) (m : Mu) (k : List T → Mu → Option RI) : bndJ (some (.ex e m)) k = some (.ex e m) := rfl
@[simp] theorem bndK_ex (e : D) (m : Mu) (k : T → Mu → Option RI) : bndK (some (.ex e m)) k = some (.ex e m) := rfl
@[simp] theorem bndIS_ex (e : D) (m : Mu) (r : Rho) (k : List D → Option Nat → Mu → Option RS) : bndIS (some (.ex e m)) r k = some (.ex e r m) := rfl
@[simp] theorem bndF_ex (e : D) (m : Mu) (r : Rho) (k : List (T × Bool) → Mu → Option RS) : bndF (some (.ex e m)) r k = some (.ex e r m) := rfl
@[simp] theorem consF_ex (e : D) (m : Mu) (k : Mu → Option RF) : consF (some (.ex e m)) k = some (.ex e m) := rfl
@[simp] theorem putF_ex (t : T × Bool) (e : D) (m : Mu) : putF t (some (.ex e m)) = some (.ex e m) := rfl
/-- nested targets -/
def setdT (ts : List (Nat ⊕ List Nat)) (t : T) (r : Rho) (m1 : Mu) : Option RS := match t with
    | .val d => (bindT (.deep ts) d r).map fun r1 => .nx r1 m1
    | _ => none
@[simp] theorem exec_setd (c : Cz) (n : Nat) (r : Rho) (m : Mu) (ts : List (Nat ⊕ List Nat)) (e : E) : exec c n (.setd ts e) r m = bnqS (ev c e r m) r fun t _ m1 => setdT ts t r m1 := by rw [exec]; rfl
theorem setdT_2 (a b c d : Nat) (x y z w : D) (r : Rho) (m1 : Mu) : setdT [.inr [a, b], .inr [c, d]] (.val (.tup [.tup [x, y], .tup [z, w]])) r m1 = some (.nx ((((r.set a (some (.val x))).set b (some (.val y))).set c (some (.val z))).set d (some (.val w))) m1) := rfl
@[simp] theorem tk_val (m : Mu) (d : D) : tk m (.val d) = some (d, m) := rfl
section
variable (c : Cz) (r : Rho) (m : Mu) (n : Nat)
def rseT (cl : Str) (t : T) (r : Rho) (m : Mu) : Option RS := (tk m t).map fun p => .ex (.exc cl p.1) r p.2
@[simp] theorem rseT_val (cl : Str) (d : D) : rseT cl (.val d) r m = some (.ex (.exc cl d) r m) := rfl
@[simp] theorem exec_rse (cl : Str) (e : E) : exec c n (.rse cl e) r m = bnqS (ev c e r m) r fun t _ m1 => rseT cl t r m1 := by rw [exec]; rfl
@[simp] theorem ev_isc (a : E) (t : Str) : ev c (.isc a t) r m = bnq (ev c a r m) fun x m1 => obq (rd m1 x) fun u => obq (iscD c.g u t) fun k => vl (.bl k) m1 := by rw [ev]; rfl
@[simp] theorem ev_fld (a : E) : ev c (.fld a) r m = bnq (ev c a r m) fun x m1 => obq (rd m1 x) fun u => obq (excV u) fun d => vl d m1 := by rw [ev]; rfl
@[simp] theorem excV_exc (c : Str) (v : D) : excV (.exc c v) = some v := rfl
/-- an error is kept -/
def keepT (g : Gz) (cl : Str) (i j : Nat) (x : Option RS) : Option RS := match x with
  | some (.ex e r1 m1) => (match e with
      | .exc e' v => if ((g.cls cl).isSome && ((g.cls e').getD []).contains cl && decide (i < r1.length) && decide (j < r1.length)) = true then some (.nx ((r1.set j (some (.val (.exc e' v)))).set i none) m1) else none
      | _ => none)
  | x => x
@[simp] theorem keepT_nx (g : Gz) (cl : Str) (i j : Nat) : keepT g cl i j (some (.nx r m)) = some (.nx r m) := rfl
@[simp] theorem keepT_rt (g : Gz) (cl : Str) (i j : Nat) (t : T) (f : Bool) : keepT g cl i j (some (.rt t f m)) = some (.rt t f m) := rfl
theorem keepT_ex (g : Gz) (cl : Str) (i j : Nat) (e : Str) (v : D) {ps : List Str} (h1 : (g.cls cl).isSome = true) (h2 : g.cls e = some ps) (h3 : ps.contains cl = true) (h4 : i < r.length) (h5 : j < r.length) : keepT g cl i j (some (.ex (.exc e v) r m)) = some (.nx ((r.set j (some (.val (.exc e v)))).set i none) m) := by
  simp only [keepT, h1, h2, Option.getD_some, h3, h4, h5, decide_true, Bool.and_self, if_true]
@[simp] theorem exec_trk (b : List S) (cl : Str) (i j : Nat) : exec c n (.trk b cl i j) r m = keepT c.g cl i j (execs c n b r m) := by rw [exec]; rfl
end
end PM

set_option linter.all false
set_option maxRecDepth 100000
/-! MiJ -/
namespace PM
open PY
open PySem (Str)
mutual
theorem eqD_refl : ∀ d : D, d.plain = true → eqD d d = true
  | .non, _ => rfl
  | .bl b, _ => by simp [eqD]
  | .int i, _ => by simp [eqD]
  | .str x, _ => by simp [eqD]
  | .tup xs, h => by rw [eqD]; rw [D.plain] at h; exact eqDs_refl xs h
  | .lst xs, h => by rw [eqD]; rw [D.plain] at h; exact eqDs_refl xs h
  | .dic _ _, h => by simp [D.plain] at h
  | .st _, h => by simp [D.plain] at h
  | .exc _ _, h => by simp [D.plain] at h
  | .fn _, h => by simp [D.plain] at h
theorem eqDs_refl : ∀ xs : List D, plains xs = true → eqDs xs xs = true
  | [], _ => rfl
  | x :: xs, h => by
    rw [plains, Bool.and_eq_true] at h
    rw [eqDs, eqD_refl x h.1, eqDs_refl xs h.2]; rfl
end
theorem sel_and (a b : Bool) (m : Mu) : sel a (R.ok (.val (.bl a)) false m) (some (R.ok (.val (.bl b)) false m)) = some (R.ok (.val (.bl (a && b))) false m) := by cases a <;> rfl
theorem sel_or (a b : Bool) (m : Mu) : sel (!a) (R.ok (.val (.bl a)) false m) (some (R.ok (.val (.bl b)) false m)) = some (R.ok (.val (.bl (a || b))) false m) := by cases a <;> rfl
theorem cop_ne_self {d : D} (h : d.plain = true) (h2 : d.depth ≤ 64) : cop .NotEq d d = some false := by
  rw [cop_neD h h (.inl h2), eqD_refl d h]; rfl
theorem cop_eq_self {d : D} (h : d.plain = true) (h2 : d.depth ≤ 64) : cop .Eq d d = some true := by
  rw [cop_eqD h h (.inl h2), eqD_refl d h]
end PM

set_option linter.all false
set_option maxRecDepth 100000
/-! MiK -/
namespace PM
open PY
open PySem (Str)
/-- a text of at most n signs, none beyond the last code -/
structure TxOk (x : Str) (n : Nat) : Prop where
  len : x.length ≤ n
  cps : ∀ c ∈ x.cps.toList, c < 0x110000
theorem TxOk.app {x y : Str} {n m : Nat} (h : TxOk x n) (g : TxOk y m) : TxOk (x ++ y) (n + m) := by
  refine ⟨by rw [PySem.strLen_append]; have := h.len; have := g.len; omega, fun c hc => ?_⟩
  have : (x ++ y).cps.toList = x.cps.toList ++ y.cps.toList := Array.toList_append
  rw [this] at hc
  rcases List.mem_append.1 hc with hc | hc
  · exact h.cps c hc
  · exact g.cps c hc
theorem TxOk.mono {x : Str} {n m : Nat} (h : TxOk x n) (g : n ≤ m) : TxOk x m := ⟨Nat.le_trans h.len g, h.cps⟩
theorem txOk_string (s : String) {n : Nat} (h : s.length ≤ n) : TxOk (Str.ofString s) n := by
  refine ⟨?_, fun c hc => ?_⟩
  · rw [Str.ofString_eq_toList]
    show (s.toList.map Char.toNat).toArray.size ≤ n
    rw [List.size_toArray, List.length_map, String.length_toList]; exact h
  · rw [Str.ofString_eq_toList] at hc
    simp only [List.mem_map] at hc
    obtain ⟨ch, _, rfl⟩ := hc
    have := ch.valid
    have h2 : ch.toNat = ch.val.toNat := rfl
    rcases this with h3 | ⟨_, h3⟩
    · have : ch.val.toNat < 55296 := h3
      omega
    · have : ch.val.toNat < 1114112 := h3
      omega
theorem txOk_join {sep : Str} {n : Nat} (hs : TxOk sep n) : ∀ {ts : List Str} {ns : List Nat}, ts.length = ns.length → (∀ p ∈ ts.zip ns, TxOk p.1 p.2) → TxOk (Str.join sep ts) (ns.sum + n * ns.length)
  | [], [], _, _ => ⟨by simp [Str.join, Str.empty, Str.length], by intro c hc; simp [Str.join, Str.empty] at hc⟩
  | [x], [k], _, h => by
    rw [Str.join]
    exact (h (x, k) (by simp)).mono (by simp)
  | x :: y :: r, k :: j :: l, hl, h => by
    have ih := txOk_join hs (ts := y :: r) (ns := j :: l) (by simpa using hl) fun p hp => h p (by simp at hp ⊢; exact .inr hp)
    rw [Str.join]
    · refine ((((h (x, k) (by simp)).app hs).app ih)).mono ?_
      simp only [List.sum_cons, List.length_cons, Nat.mul_add]
      omega
    · simp
  | _ :: _, [], hl, _ => by simp at hl
  | [], _ :: _, hl, _ => by simp at hl
  | [_], _ :: _ :: _, hl, _ => by simp at hl
  | _ :: _ :: _, [_], hl, _ => by simp at hl
mutual
/-- a bound of a value's text -/
def rwD : D → Nat
  | .non => 4
  | .bl _ => 5
  | .int _ => 21
  | .tup xs => 3 + rwDs xs
  | .lst xs => 2 + rwDs xs
  | _ => 0
def rwDs : List D → Nat
  | [] => 0
  | x :: xs => rwD x + 2 + rwDs xs
end
mutual
/-- no texts, no great numbers -/
def okR : D → Bool
  | .non => true
  | .bl _ => true
  | .int i => decide (i.natAbs < 10 ^ 20)
  | .tup xs => okRs xs
  | .lst xs => okRs xs
  | _ => false
def okRs : List D → Bool
  | [] => true
  | x :: xs => okR x && okRs xs
end
theorem shownAll_toPys : ∀ xs : List D, PySem.PyData.shownAll (toPys xs) = xs.map reprD
  | [] => rfl
  | x :: xs => by rw [toPys, PySem.PyData.shownAll, shownAll_toPys xs]; rfl
theorem rwDs_eq (xs : List D) : rwDs xs = (xs.map rwD).sum + 2 * (xs.map rwD).length := by
  induction xs with
  | nil => rfl
  | cons x xs ih => simp only [rwDs, ih, List.map_cons, List.sum_cons, List.length_cons]; omega
theorem txOk_texts {xs : List D} (h : ∀ x ∈ xs, TxOk (reprD x) (rwD x)) : TxOk (Str.join ", " (xs.map reprD)) (rwDs xs) := by
  rw [rwDs_eq]
  refine txOk_join (txOk_string ", " (by decide)) (by simp) fun p hp => ?_
  rw [List.zip_map', List.mem_map] at hp
  obtain ⟨x, hx, rfl⟩ := hp
  exact h x hx
theorem txOk_from : ∀ {ts : List Str} {ns : List Nat} (k : Nat) {acc : Str} {n : Nat}, TxOk acc n → ts.length = ns.length → (∀ p ∈ ts.zip ns, TxOk p.1 p.2) → TxOk (PySem.textFrom k acc ts) (n + (ns.sum + 2 * ns.length))
  | [], [], k, acc, n, h, _, _ => by rw [PySem.textFrom]; exact h.mono (by omega)
  | t :: ts, j :: ns, k, acc, n, h, hl, g => by
    rw [PySem.textFrom]
    have h1 : TxOk ((if k > 0 then ", " else "" : String) : Str) 2 := by
      split
      · exact txOk_string ", " (by decide)
      · exact txOk_string "" (by decide)
    have ih := txOk_from (ts := ts) (ns := ns) (k + 1) ((h.app h1).app (g (t, j) (by simp))) (by simpa using hl) fun p hp => g p (by simp at hp ⊢; exact .inr hp)
    refine ih.mono ?_
    simp only [List.sum_cons, List.length_cons, Nat.mul_add]
    omega
  | _ :: _, [], _, _, _, _, hl, _ => by simp at hl
  | [], _ :: _, _, _, _, _, hl, _ => by simp at hl
theorem txOk_list {xs : List D} (h : ∀ x ∈ xs, TxOk (reprD x) (rwD x)) : TxOk (PySem.listText (xs.map reprD)) (2 + rwDs xs) := by
  rw [PySem.listText, rwDs_eq]
  have h1 := txOk_from 0 (txOk_string "[" (n := 1) (by decide)) (ts := xs.map reprD) (ns := xs.map rwD) (by simp) fun p hp => by
    rw [List.zip_map', List.mem_map] at hp
    obtain ⟨x, hx, rfl⟩ := hp
    exact h x hx
  exact (h1.app (txOk_string "]" (n := 1) (by decide))).mono (by omega)
theorem txOk_tuple {xs : List D} (h : ∀ x ∈ xs, TxOk (reprD x) (rwD x)) : TxOk (PySem.tupleText (xs.map reprD)) (3 + rwDs xs) := by
  rw [PySem.tupleText]
  refine (((txOk_string "(" (n := 1) (by decide)).app (txOk_texts h)).app (m := 2) ?_).mono (by omega)
  split
  · exact txOk_string ",)" (by decide)
  · exact txOk_string ")" (by decide)
mutual
theorem txOk_repr : ∀ d : D, okR d = true → TxOk (reprD d) (rwD d)
  | .non, _ => txOk_string "None" (by decide)
  | .bl b, _ => by cases b; exact txOk_string "False" (by decide); exact txOk_string "True" (by decide)
  | .int i, h => by
    rw [okR, decide_eq_true_eq] at h
    exact txOk_string (toString i) (PySem.int_text_length_le10 (by decide) h)
  | .str x, h => by simp [okR] at h
  | .tup xs, h => by rw [okR] at h; show TxOk (PySem.tupleText (PySem.PyData.shownAll (toPys xs))) _; rw [shownAll_toPys]; exact txOk_tuple (txOk_reprs xs h)
  | .lst xs, h => by rw [okR] at h; show TxOk (PySem.listText (PySem.PyData.shownAll (toPys xs))) _; rw [shownAll_toPys]; exact txOk_list (txOk_reprs xs h)
  | .dic _ _, h => by simp [okR] at h
  | .st _, h => by simp [okR] at h
  | .exc _ _, h => by simp [okR] at h
  | .fn _, h => by simp [okR] at h
theorem txOk_reprs : ∀ xs : List D, okRs xs = true → ∀ x ∈ xs, TxOk (reprD x) (rwD x)
  | [], _, x, h => by cases h
  | y :: ys, h, x, hx => by
    rw [okRs, Bool.and_eq_true] at h
    rcases List.mem_cons.1 hx with e | hx
    · rw [e]; exact txOk_repr y h.1
    · exact txOk_reprs ys h.2 x hx
end
mutual
theorem okR_show : ∀ d : D, okR d = true → d.plain = true ∧ (toPy d).showable = true
  | .non, _ => ⟨rfl, rfl⟩
  | .bl _, _ => ⟨rfl, rfl⟩
  | .int i, h => by
    rw [okR, decide_eq_true_eq] at h
    refine ⟨rfl, ?_⟩
    simp only [toPy, PySem.PyData.showable, decide_eq_true_eq]
    by_cases h0 : i.natAbs = 0
    · rw [h0]; decide
    · rw [Nat.log2_lt h0]
      exact Nat.lt_of_lt_of_le h (Nat.le_trans (by decide : 10 ^ 20 ≤ 2 ^ 70) (Nat.pow_le_pow_right (by decide) (by decide)))
  | .str x, h => by simp [okR] at h
  | .tup xs, h => by rw [okR] at h; have := okRs_show xs h; exact ⟨by rw [D.plain]; exact this.1, by rw [toPy, PySem.PyData.showable]; exact this.2⟩
  | .lst xs, h => by rw [okR] at h; have := okRs_show xs h; exact ⟨by rw [D.plain]; exact this.1, by rw [toPy, PySem.PyData.showable]; exact this.2⟩
  | .dic _ _, h => by simp [okR] at h
  | .st _, h => by simp [okR] at h
  | .exc _ _, h => by simp [okR] at h
  | .fn _, h => by simp [okR] at h
theorem okRs_show : ∀ xs : List D, okRs xs = true → plains xs = true ∧ PySem.PyData.showableAll (toPys xs) = true
  | [], _ => ⟨rfl, rfl⟩
  | x :: xs, h => by
    rw [okRs, Bool.and_eq_true] at h
    have h1 := okR_show x h.1
    have h2 := okRs_show xs h.2
    exact ⟨by rw [plains, h1.1, h2.1]; rfl, by rw [toPys, PySem.PyData.showableAll, h1.2, h2.2]; rfl⟩
end
/-- repr(d) -/
theorem blt_repr {d : D} (h : okR d = true) (hd : d.depth ≤ 60) (hw : rwD d ≤ 1000000) : blt .repr [d] = some (.str (reprD d), false) ∧ (D.str (reprD d)).plain = true := by
  have h1 := okR_show d h
  have h2 := txOk_repr d h
  constructor
  · simp only [blt, reprOk, h1.1, h1.2, hd, decide_true, Bool.and_true, Bool.true_and]
    rw [if_pos]
    rw [decide_eq_true_eq]
    exact Nat.le_trans h2.len hw
  · rw [D.plain]
    simp only [Array.all_eq_true, decide_eq_true_eq]
    intro i hi
    exact h2.cps _ (by simp)
end PM

set_option linter.all false
/-! MaH -/
namespace Ma
open Tr
theorem lt_of_not_le {x y : Tr} (h : le y x = false) : cmp x y = .lt := by
  have := lt_not_le x y
  rw [h] at this
  simpa [lt] using this
theorem plus_step {x : Tr} {a : List Tr} (h : desc (x :: a)) (y : Tr) (b : List Tr) : plus (x :: a) (y :: b) = if le y x = true then x :: plus a (y :: b) else y :: b := by
  rw [plus]
  by_cases g : le y x = true
  · rw [if_pos g, List.filter_cons_of_pos (by simpa using g), plus, List.cons_append]
  · rw [if_neg g, List.filter_cons_of_neg (by simpa using g)]
    have : a.filter (fun x => le y x) = [] := by
      rw [List.filter_eq_nil_iff]
      intro z hz hy
      exact g (le_trans hy ((List.pairwise_cons.1 h).1 z hz))
    rw [this]; rfl
theorem cmp_plus : ∀ {a : List Tr} (b c : List Tr), desc a → cmp (ofL (plus a b)) (ofL (plus a c)) = cmp (ofL b) (ofL c)
  | [], b, c, _ => by rw [nil_plus, nil_plus]
  | x :: a, b, c, h => by
    have ha : desc a := (List.pairwise_cons.1 h).2
    cases b with
    | nil =>
      cases c with
      | nil => simp [plus, cmp_self, ofL, cmp]
      | cons z c =>
        rw [plus_nil, plus_step h]
        by_cases g : le z x = true
        · rw [if_pos g]
          have := cmp_plus [] (z :: c) ha
          rw [plus_nil] at this
          simp only [ofL, cmp, cmp_self, Ordering.then] at this ⊢
          exact this
        · rw [if_neg g]
          have e := lt_of_not_le (by simpa using g : le z x = false)
          simp [ofL, cmp, e, Ordering.then]
    | cons y b =>
      cases c with
      | nil =>
        rw [plus_nil, plus_step h]
        by_cases g : le y x = true
        · rw [if_pos g]
          have := cmp_plus (y :: b) [] ha
          rw [plus_nil] at this
          simp only [ofL, cmp, cmp_self, Ordering.then] at this ⊢
          exact this
        · rw [if_neg g]
          have e := lt_of_not_le (by simpa using g : le y x = false)
          have e2 : cmp y x = .gt := by rw [← cmp_swap x y, e]; rfl
          simp [ofL, cmp, e2, Ordering.then]
      | cons z c =>
        rw [plus_step h, plus_step h]
        by_cases g : le y x = true <;> by_cases g2 : le z x = true
        · rw [if_pos g, if_pos g2]
          have := cmp_plus (y :: b) (z :: c) ha
          simp only [ofL, cmp, cmp_self, Ordering.then] at this ⊢
          exact this
        · rw [if_pos g, if_neg g2]
          have e := lt_of_not_le (by simpa using g2 : le z x = false)
          have e2 : cmp y z = .lt := by
            have : le z y = false := by
              cases hh : le z y with
              | false => rfl
              | true => exact absurd (le_trans hh g) g2
            exact lt_of_not_le this
          simp [ofL, cmp, e, e2, Ordering.then]
        · rw [if_neg g, if_pos g2]
          have e := lt_of_not_le (by simpa using g : le y x = false)
          have e1 : cmp y x = .gt := by rw [← cmp_swap x y, e]; rfl
          have e2 : cmp y z = .gt := by
            have : le y z = false := by
              cases hh : le y z with
              | false => rfl
              | true => exact absurd (le_trans hh g2) g
            have := lt_of_not_le this
            rw [← cmp_swap z y, this]; rfl
          simp [ofL, cmp, e1, e2, Ordering.then]
        · rw [if_neg g, if_neg g2]
theorem lt_plus {a : List Tr} (b c : List Tr) (h : desc a) : lt (ofL (plus a b)) (ofL (plus a c)) = lt (ofL b) (ofL c) := by rw [lt, lt, cmp_plus b c h]
theorem plus_inj {a b c : List Tr} (h : desc a) (e : plus a b = plus a c) : b = c := by
  have := cmp_plus b c h
  rw [e, cmp_self] at this
  exact ofL_inj (cmp_eq this.symm)
theorem plus_ge (a b : List Tr) (h : desc a) : lt (ofL (plus a b)) (ofL a) = false := by
  have := lt_plus b [] h
  rw [plus_nil] at this
  rw [this]
  cases b <;> simp [ofL, lt, cmp]
end Ma

set_option linter.all false
set_option maxRecDepth 100000
/-! Fn -/
namespace Fn
open PM PY
open PySem (Str)
def f_is_integer : Fd := ⟨["value"], 1, [(.ret (.and (.isi (.var 0) "int") (.not (.isi (.var 0) "bool"))))]⟩
def f_is_between : Fd := ⟨["value", "low", "high"], 3, [(.ret (.and (.call "is_integer" [(.var 0)] [0]) (.chn .LtE .LtE (.var 1) (.var 0) (.var 2))))]⟩
def f_is_tuple : Fd := ⟨["value", "low", "high"], 3, [(.ret (.and (.isi (.var 0) "tuple") (.and (.cmp .GtE (.blt .len [(.var 0)]) (.var 1)) (.or (.cmp .Is (.var 2) (.con .non)) (.cmp .LtE (.blt .len [(.var 0)]) (.var 2))))))]⟩
def f_need_number : Fd := ⟨["number", "low", "high"], 3, [(.ite (.or (.cmp .Lt (.var 0) (.var 1)) (.and (.cmp .IsNot (.var 2) (.con .non)) (.cmp .Gt (.var 0) (.var 2)))) [(.rse "InvalidNumber" (.var 0))] [])]⟩
def f_anew : Fd := ⟨["value"], 2, [(.ite (.isi (.var 0) "list") [(.ret (.cmpr (.call "anew" [(.var 1)] [0]) (.one 1) (.var 0) [] [1]))] []), (.ite (.isi (.var 0) "tuple") [(.ret (.blt .tuple [(.cmpr (.call "anew" [(.var 1)] [0]) (.one 1) (.var 0) [] [1])]))] []), (.ret (.var 0))]⟩
def f_counted : Fd := ⟨["value"], 6, [(.ite (.not (.isi (.var 0) "tuple")) [(.ret (.con (.int 0)))] []), (.set 1 (.con (.int 1))), (.for (.one 2) (.var 0) [(.set 3 (.call "counted" [(.var 2)] [0])), (.ite (.cmp .Eq (.var 3) (.con (.int 0))) [(.ret (.con (.int 0)))] []), (.aug 1 .Add (.var 3))]), (.ret (.ife (.blt .all [(.cmpr (.cmp .GtE (.var 4) (.var 5)) (.many [4, 5]) (.zip (.var 0) (.slc true false (.var 0) [(.con (.int 1))])) [] [4, 5])]) (.var 1) (.con (.int 0))))]⟩
def f_is_ordinal_in : Fd := ⟨["value"], 1, [(.ret (.chn .Lt .LtE (.con (.int 0)) (.call "counted" [(.var 0)] [0]) (.glo "MOST")))]⟩
def f_number_in : Fd := ⟨["n"], 1, [(.ret (.bin .Mult (.tup [(.glo "ZERO")]) (.var 0)))]⟩
def f_is_number_in : Fd := ⟨["ordinal"], 1, [(.ret (.or (.cmp .Eq (.var 0) (.glo "ZERO")) (.cmp .Eq (.idx (.var 0) (.con (.int 0))) (.glo "ZERO"))))]⟩
def f_plus_in : Fd := ⟨["one", "other"], 3, [(.ite (.cmp .Eq (.var 1) (.glo "ZERO")) [(.ret (.var 0))] []), (.ret (.bin .Add (.blt .tuple [(.cmpr (.var 2) (.one 2) (.var 0) [(.cmp .GtE (.var 2) (.idx (.var 1) (.con (.int 0))))] [2])]) (.var 1)))]⟩
def f_times_in : Fd := ⟨["one", "other"], 4, [(.set 2 (.glo "ZERO")), (.ite (.cmp .Eq (.var 0) (.glo "ZERO")) [(.ret (.var 2))] []), (.for (.one 3) (.var 1) [(.set 2 (.call "plus_in" [(.var 2), (.ife (.cmp .Eq (.var 3) (.glo "ZERO")) (.var 0) (.tup [(.call "plus_in" [(.idx (.var 0) (.con (.int 0))), (.var 3)] [0, 1])]))] [0, 1]))]), (.ret (.var 2))]⟩
def f_need_ordinal : Fd := ⟨["ordinal"], 1, [(.ite (.not (.call "is_ordinal_in" [(.var 0)] [0])) [(.rse "InvalidOrdinal" (.call "anew" [(.var 0)] [0]))] [])]⟩
def f_need_ordinals : Fd := ⟨["one", "other"], 2, [(.ex (.call "need_ordinal" [(.var 0)] [0])), (.ex (.call "need_ordinal" [(.var 1)] [0]))]⟩
def f_number : Fd := ⟨["n"], 1, [(.ex (.call "need_number" [(.var 0), (.con (.int 0)), (.glo "MOST_NUMBER")] [0, 1, 2])), (.ret (.call "number_in" [(.var 0)] [0]))]⟩
def f_plus : Fd := ⟨["one", "other"], 2, [(.ex (.call "need_ordinals" [(.var 0), (.var 1)] [0, 1])), (.ret (.call "plus_in" [(.var 0), (.var 1)] [0, 1]))]⟩
def f_times : Fd := ⟨["one", "other"], 2, [(.ex (.call "need_ordinals" [(.var 0), (.var 1)] [0, 1])), (.ret (.call "times_in" [(.var 0), (.var 1)] [0, 1]))]⟩
def f_is_worm_in : Fd := ⟨["value"], 2, [(.ret (.and (.call "is_tuple" [(.var 0), (.con (.int 0)), (.glo "MOST_LENGTH")] [0, 1, 2]) (.blt .all [(.cmpr (.call "is_between" [(.var 1), (.con (.int 0)), (.glo "MOST_LETTER")] [0, 1, 2]) (.one 1) (.var 0) [] [1])])))]⟩
def f_raised_in : Fd := ⟨["worm", "n"], 3, [(.ret (.blt .tuple [(.cmpr (.bin .Add (.var 2) (.var 1)) (.one 2) (.var 0) [] [2])]))]⟩
def f_lowered_in : Fd := ⟨["worm", "n"], 3, [(.ret (.blt .tuple [(.cmpr (.bin .Sub (.var 2) (.var 1)) (.one 2) (.var 0) [] [2])]))]⟩
def f_pieces_of : Fd := ⟨["worm"], 4, [(.par [1, 2] [true, true] [(.lst []), (.lst [])]), (.for (.one 3) (.var 0) [(.ite (.cmp .Eq (.var 3) (.con (.int 0))) [(.app 1 (.blt .tuple [(.var 2)])), (.cell 2 (.lst []))] [(.app 2 (.var 3))])]), (.ret (.bin .Add (.var 1) (.lst [(.blt .tuple [(.var 2)])])))]⟩
def f_order_in : Fd := ⟨["worm"], 3, [(.ite (.not (.blt .any [(.var 0)])) [(.ret (.call "number_in" [(.blt .len [(.var 0)])] [0]))] []), (.set 1 (.glo "ZERO")), (.for (.one 2) (.rev (.call "pieces_of" [(.var 0)] [0])) [(.set 1 (.call "plus_in" [(.var 1), (.tup [(.call "order_in" [(.call "lowered_in" [(.var 2), (.con (.int 1))] [0, 1])] [0])])] [0, 1]))]), (.ret (.var 1))]⟩
def f_worm_in : Fd := ⟨["ordinal"], 3, [(.ite (.call "is_number_in" [(.var 0)] [0]) [(.ret (.bin .Mult (.tup [(.con (.int 0))]) (.blt .len [(.var 0)])))] []), (.set 1 (.call "raised_in" [(.call "worm_in" [(.idx (.var 0) (.neg (.con (.int 1))))] [0]), (.con (.int 1))] [0, 1])), (.for (.one 2) (.rev (.slc false true (.var 0) [(.neg (.con (.int 1)))])) [(.set 1 (.bin .Add (.bin .Add (.var 1) (.tup [(.con (.int 0))])) (.call "raised_in" [(.call "worm_in" [(.var 2)] [0]), (.con (.int 1))] [0, 1])))]), (.ret (.var 1))]⟩
def f_form_in : Fd := ⟨["worm"], 1, [(.ret (.call "worm_in" [(.call "order_in" [(.var 0)] [0])] [0]))]⟩
def f_need_worm : Fd := ⟨["worm"], 1, [(.ite (.not (.call "is_worm_in" [(.var 0)] [0])) [(.rse "InvalidWorm" (.call "anew" [(.var 0)] [0]))] [])]⟩
def f_moved : Fd := ⟨["worm", "n", "found"], 4, [(.ex (.call "need_worm" [(.var 0)] [0])), (.ex (.call "need_number" [(.var 1), (.con (.int 0)), (.glo "MOST_LETTER")] [0, 1, 2])), (.set 3 (.cloc 2 [(.var 0), (.var 1)])), (.ite (.not (.call "is_worm_in" [(.var 3)] [0])) [(.rse "InvalidNumber" (.var 1))] []), (.ret (.var 3))]⟩
def f_raised : Fd := ⟨["worm", "n"], 2, [(.ret (.call "moved" [(.var 0), (.var 1), (.con (.fn "raised_in"))] [0, 1, 2]))]⟩
def f_order : Fd := ⟨["worm"], 1, [(.ex (.call "need_worm" [(.var 0)] [0])), (.ret (.call "order_in" [(.var 0)] [0]))]⟩
def f_worm_of : Fd := ⟨["ordinal"], 2, [(.ex (.call "need_ordinal" [(.var 0)] [0])), (.set 1 (.call "worm_in" [(.var 0)] [0])), (.ite (.not (.call "is_worm_in" [(.var 1)] [0])) [(.rse "InvalidOrdinal" (.call "anew" [(.var 0)] [0]))] []), (.ret (.var 1))]⟩
def f_form_of : Fd := ⟨["worm"], 1, [(.ex (.call "need_worm" [(.var 0)] [0])), (.ret (.call "form_in" [(.var 0)] [0]))]⟩
def f_pieces : Fd := ⟨["worm"], 2, [(.ex (.call "need_worm" [(.var 0)] [0])), (.ret (.blt .tuple [(.cmpr (.call "lowered_in" [(.var 1), (.con (.int 1))] [0, 1]) (.one 1) (.call "pieces_of" [(.var 0)] [0]) [] [1])]))]⟩
def f_put_together : Fd := ⟨["pieces"], 3, [(.set 1 (.call "raised_in" [(.idx (.var 0) (.con (.int 0))), (.con (.int 1))] [0, 1])), (.for (.one 2) (.slc true false (.var 0) [(.con (.int 1))]) [(.set 1 (.bin .Add (.bin .Add (.var 1) (.tup [(.con (.int 0))])) (.call "raised_in" [(.var 2), (.con (.int 1))] [0, 1])))]), (.ret (.var 1))]⟩
def f_from_pieces : Fd := ⟨["pieces"], 4, [(.set 1 (.and (.call "is_tuple" [(.var 0), (.con (.int 1)), (.con .non)] [0, 1, 2]) (.blt .all [(.cmpr (.call "is_worm_in" [(.var 2)] [0]) (.one 2) (.var 0) [] [2])]))), (.set 3 (.ife (.var 1) (.call "put_together" [(.var 0)] [0]) (.con .non))), (.ite (.not (.call "is_worm_in" [(.var 3)] [0])) [(.rse "InvalidWorm" (.call "anew" [(.var 0)] [0]))] []), (.ret (.var 3))]⟩
def f__law_draw : Fd := ⟨["well", "many"], 5, [(.ite (.cmp .Gt (.idx (.var 0) (.con (.int 0))) (.con (.int 0))) [(.set 2 (.bin .Mod (.blt .int [(.idx (.var 0) (.con (.int 0)))]) (.var 1))), (.sub 0 (.con (.int 0)) (.bin .FloorDiv (.idx (.var 0) (.con (.int 0))) (.var 1))), (.ret (.var 2))] []), (.sub 0 (.con (.int 2)) (.bin .Add (.idx (.var 0) (.con (.int 2))) (.con (.int 1)))), (.set 3 (.idx (.var 0) (.con (.int 2)))), (.set 4 (.bin .Mod (.blt .int [(.bin .Add (.bin .Add (.bin .Mult (.bin .Mult (.bin .Add (.idx (.var 0) (.con (.int 1))) (.con (.int 31))) (.bin .Add (.var 3) (.con (.int 5)))) (.con (.int 998244353))) (.bin .Mult (.bin .Mult (.bin .Mult (.var 3) (.var 3)) (.var 3)) (.con (.int 424242427)))) (.con (.int 77)))]) (.bin .Add (.bin .Pow (.con (.int 10)) (.con (.int 29))) (.con (.int 319))))), (.set 4 (.bin .Mod (.blt .int [(.bin .Add (.bin .Add (.bin .Mult (.var 4) (.var 4)) (.bin .Mult (.idx (.var 0) (.con (.int 1))) (.con (.int 7)))) (.var 3))]) (.bin .Add (.bin .Pow (.con (.int 10)) (.con (.int 31))) (.con (.int 33))))), (.set 4 (.bin .Mod (.blt .int [(.bin .Add (.bin .Mult (.bin .Mult (.var 4) (.var 4)) (.con (.int 3))) (.bin .Mult (.var 4) (.con (.int 11))))]) (.bin .Add (.bin .Pow (.con (.int 10)) (.con (.int 33))) (.con (.int 603))))), (.ret (.bin .Mod (.blt .int [(.bin .FloorDiv (.var 4) (.con (.int 50021)))]) (.var 1)))]⟩
def f__law_less : Fd := ⟨["one", "other"], 4, [(.for (.many [2, 3]) (.zip (.var 0) (.var 1)) [(.ite (.call "_law_less" [(.var 2), (.var 3)] [0, 1]) [(.ret (.con (.bl true)))] []), (.ite (.call "_law_less" [(.var 3), (.var 2)] [0, 1]) [(.ret (.con (.bl false)))] [])]), (.ret (.cmp .Lt (.blt .len [(.var 0)]) (.blt .len [(.var 1)])))]⟩
def f__law_plus : Fd := ⟨["one", "other"], 3, [(.ite (.cmp .Eq (.var 1) (.tup [])) [(.ret (.var 0))] []), (.ret (.bin .Add (.blt .tuple [(.cmpr (.var 2) (.one 2) (.var 0) [(.not (.call "_law_less" [(.var 2), (.idx (.var 1) (.con (.int 0)))] [0, 1]))] [2])]) (.var 1)))]⟩
def f__law_order : Fd := ⟨["worm"], 6, [(.ite (.cmp .Eq (.blt .max [(.bin .Add (.var 0) (.tup [(.con (.int 0))]))]) (.con (.int 0))) [(.ret (.bin .Mult (.tup [(.tup [])]) (.blt .len [(.var 0)])))] []), (.par [1, 2] [false, false] [(.tup []), (.lst [])]), (.for (.one 3) (.rng [(.bin .Add (.blt .len [(.var 0)]) (.con (.int 1)))]) [(.set 4 (.bin .Sub (.bin .Sub (.blt .len [(.var 0)]) (.con (.int 1))) (.var 3))), (.ite (.or (.cmp .Lt (.var 4) (.con (.int 0))) (.cmp .Eq (.idx (.var 0) (.var 4)) (.con (.int 0)))) [(.set 1 (.call "_law_plus" [(.var 1), (.tup [(.call "_law_order" [(.blt .tuple [(.cmpr (.bin .Sub (.var 5) (.con (.int 1))) (.one 5) (.var 2) [] [5])])] [0])])] [0, 1])), (.set 2 (.lst []))] [(.set 2 (.bin .Add (.lst [(.idx (.var 0) (.var 4))]) (.var 2)))])]), (.ret (.var 1))]⟩
def f__law_worm_of : Fd := ⟨["ordinal"], 5, [(.ite (.or (.cmp .Eq (.var 0) (.tup [])) (.cmp .Eq (.idx (.var 0) (.con (.int 0))) (.tup []))) [(.ret (.bin .Mult (.tup [(.con (.int 0))]) (.blt .len [(.var 0)])))] []), (.set 1 (.tup [])), (.for (.one 2) (.rng [(.blt .len [(.var 0)])]) [(.set 3 (.call "_law_worm_of" [(.idx (.var 0) (.bin .Sub (.bin .Sub (.blt .len [(.var 0)]) (.con (.int 1))) (.var 2)))] [0])), (.set 1 (.bin .Add (.bin .Add (.var 1) (.ife (.cmp .Gt (.var 2) (.con (.int 0))) (.tup [(.con (.int 0))]) (.tup []))) (.blt .tuple [(.cmpr (.bin .Add (.var 4) (.con (.int 1))) (.one 4) (.var 3) [] [4])])))]), (.ret (.var 1))]⟩
def f__law_heads : Fd := ⟨["worm", "most"], 6, [(.cell 2 (.lst [])), (.for (.one 3) (.rng [(.bin .Add (.var 1) (.con (.int 1)))]) [(.set 4 (.con (.int 0))), (.whl (.and (.cmp .Lt (.var 4) (.blt .len [(.var 0)])) (.cmp .GtE (.idx (.var 0) (.var 4)) (.var 3))) [(.set 4 (.bin .Add (.var 4) (.con (.int 1))))]), (.app 2 (.call "_law_order" [(.blt .tuple [(.cmpr (.bin .Sub (.var 5) (.var 3)) (.one 5) (.slc false true (.var 0) [(.var 4)]) [] [5])])] [0]))]), (.ret (.var 2))]⟩
def f__law_implies : Fd := ⟨["one", "other"], 4, [(.ret (.not (.blt .any [(.cmpr (.call "_law_less" [(.var 2), (.var 3)] [0, 1]) (.many [2, 3]) (.zip (.call "_law_heads" [(.var 0), (.con (.int 7))] [0, 1]) (.call "_law_heads" [(.var 1), (.con (.int 7))] [0, 1])) [] [2, 3])])))]⟩
def f__law_worm : Fd := ⟨["well", "many", "most"], 5, [(.cell 3 (.lst [])), (.for (.one 4) (.rng [(.call "_law_draw" [(.var 0), (.bin .Add (.var 1) (.con (.int 1)))] [0, 1])]) [(.app 3 (.call "_law_draw" [(.var 0), (.bin .Add (.var 2) (.con (.int 1)))] [0, 1]))]), (.ret (.blt .tuple [(.var 3)]))]⟩
def f__law_whole : Fd := ⟨["worm"], 6, [(.par [1, 2] [true, true] [(.lst []), (.lst [])]), (.for (.one 3) (.var 0) [(.ite (.cmp .Eq (.var 3) (.con (.int 0))) [(.app 1 (.blt .tuple [(.var 2)])), (.cell 2 (.lst []))] [(.app 2 (.bin .Sub (.var 3) (.con (.int 1))))])]), (.set 4 (.tup [])), (.for (.one 5) (.rev (.bin .Add (.var 1) (.lst [(.blt .tuple [(.var 2)])]))) [(.set 4 (.call "_law_plus" [(.var 4), (.tup [(.call "_law_order" [(.var 5)] [0])])] [0, 1]))]), (.ret (.var 4))]⟩
def f_last_in : Fd := ⟨["ordinal"], 1, [(.ret (.ife (.cmp .NotEq (.var 0) (.glo "ZERO")) (.idx (.var 0) (.neg (.con (.int 1)))) (.glo "ZERO")))]⟩
def f_minus_in : Fd := ⟨["one", "other"], 3, [(.ite (.cmp .Gt (.var 1) (.var 0)) [(.ret (.con .non))] []), (.set 2 (.con (.int 0))), (.whl (.and (.cmp .Lt (.var 2) (.blt .len [(.var 1)])) (.cmp .Eq (.idx (.var 1) (.var 2)) (.idx (.var 0) (.var 2)))) [(.aug 2 .Add (.con (.int 1)))]), (.ret (.slc true false (.var 0) [(.var 2)]))]⟩
def f_toward_in : Fd := ⟨["ordinal", "n"], 3, [(.ite (.or (.cmp .Eq (.var 0) (.glo "ZERO")) (.cmp .Eq (.idx (.var 0) (.neg (.con (.int 1)))) (.glo "ZERO"))) [(.ret (.slc false true (.var 0) [(.neg (.con (.int 1)))]))] []), (.set 2 (.idx (.var 0) (.neg (.con (.int 1))))), (.ite (.cmp .Eq (.idx (.var 2) (.neg (.con (.int 1)))) (.glo "ZERO")) [(.ret (.bin .Add (.slc false true (.var 0) [(.neg (.con (.int 1)))]) (.bin .Mult (.tup [(.slc false true (.var 2) [(.neg (.con (.int 1)))])]) (.var 1))))] []), (.ret (.bin .Add (.slc false true (.var 0) [(.neg (.con (.int 1)))]) (.tup [(.call "toward_in" [(.var 2), (.var 1)] [0, 1])])))]⟩
def f_is_ordinal : Fd := ⟨["value"], 1, [(.ret (.call "is_ordinal_in" [(.var 0)] [0]))]⟩
def f_as_number : Fd := ⟨["ordinal"], 1, [(.ex (.call "need_ordinal" [(.var 0)] [0])), (.ret (.ife (.call "is_number_in" [(.var 0)] [0]) (.blt .len [(.var 0)]) (.con .non)))]⟩
def f_last : Fd := ⟨["ordinal"], 1, [(.ex (.call "need_ordinal" [(.var 0)] [0])), (.ret (.call "last_in" [(.var 0)] [0]))]⟩
def f_minus : Fd := ⟨["one", "other"], 2, [(.ex (.call "need_ordinals" [(.var 0), (.var 1)] [0, 1])), (.ret (.call "minus_in" [(.var 0), (.var 1)] [0, 1]))]⟩
def f_kind_of : Fd := ⟨["ordinal"], 1, [(.ex (.call "need_ordinal" [(.var 0)] [0])), (.ite (.cmp .Eq (.var 0) (.tup [])) [(.ret (.con (.str "zero")))] []), (.ret (.ife (.cmp .Eq (.idx (.var 0) (.neg (.con (.int 1)))) (.tup [])) (.con (.str "successor")) (.con (.str "limit"))))]⟩
def f_toward : Fd := ⟨["ordinal", "n"], 2, [(.ex (.call "need_ordinal" [(.var 0)] [0])), (.ex (.call "need_number" [(.var 1), (.con (.int 0)), (.glo "MOST_TOWARD")] [0, 1, 2])), (.ret (.call "toward_in" [(.var 0), (.var 1)] [0, 1]))]⟩
def f__law_ordinal : Fd := ⟨["well", "deep"], 4, [(.cell 2 (.lst [])), (.for (.one 3) (.rng [(.call "_law_draw" [(.var 0), (.con (.int 4))] [0, 1])]) [(.app 2 (.ife (.and (.cmp .Gt (.var 1) (.con (.int 0))) (.cmp .Eq (.call "_law_draw" [(.var 0), (.con (.int 2))] [0, 1]) (.con (.int 0)))) (.call "_law_ordinal" [(.var 0), (.bin .Sub (.var 1) (.con (.int 1)))] [0, 1]) (.bin .Mult (.tup [(.tup [])]) (.call "_law_draw" [(.var 0), (.con (.int 3))] [0, 1]))))]), (.ret (.call "_law_put" [(.var 2)] [0]))]⟩
def f__law_put : Fd := ⟨["some"], 4, [(.set 1 (.lst [])), (.for (.one 2) (.var 0) [(.set 3 (.con (.int 0))), (.whl (.and (.cmp .Lt (.var 3) (.blt .len [(.var 1)])) (.not (.call "_law_less" [(.idx (.var 1) (.var 3)), (.var 2)] [0, 1]))) [(.set 3 (.bin .Add (.var 3) (.con (.int 1))))]), (.set 1 (.bin .Add (.bin .Add (.slc false true (.var 1) [(.var 3)]) (.lst [(.var 2)])) (.slc true false (.var 1) [(.var 3)])))]), (.ret (.blt .tuple [(.var 1)]))]⟩
def f__law_sum : Fd := ⟨["one", "other"], 4, [(.ite (.cmp .Eq (.var 1) (.tup [])) [(.ret (.var 0))] []), (.cell 2 (.lst [])), (.for (.one 3) (.var 0) [(.ite (.not (.call "_law_less" [(.var 3), (.idx (.var 1) (.con (.int 0)))] [0, 1])) [(.app 2 (.var 3))] [])]), (.ret (.bin .Add (.blt .tuple [(.var 2)]) (.var 1)))]⟩
def f_is_worm : Fd := ⟨["value"], 1, [(.ret (.call "is_worm_in" [(.var 0)] [0]))]⟩
def f_lowered : Fd := ⟨["worm", "n"], 2, [(.ret (.call "moved" [(.var 0), (.var 1), (.con (.fn "lowered_in"))] [0, 1, 2]))]⟩
def f_head_at : Fd := ⟨["n", "worm"], 3, [(.set 2 (.con (.int 0))), (.whl (.and (.cmp .Lt (.var 2) (.blt .len [(.var 1)])) (.cmp .GtE (.idx (.var 1) (.var 2)) (.var 0))) [(.aug 2 .Add (.con (.int 1)))]), (.ret (.tup [(.slc false true (.var 1) [(.var 2)]), (.slc true false (.var 1) [(.var 2)])]))]⟩
def f_order_at : Fd := ⟨["n", "worm"], 2, [(.ret (.call "order_in" [(.call "lowered_in" [(.var 1), (.var 0)] [0, 1])] [0]))]⟩
def f_less_at : Fd := ⟨["n", "one", "other"], 3, [(.ret (.cmp .Lt (.call "order_at" [(.var 0), (.var 1)] [0, 1]) (.call "order_at" [(.var 0), (.var 2)] [0, 1])))]⟩
def f_both_raw : Fd := ⟨["one", "other"], 8, [(.ite (.cmp .Eq (.bin .Add (.var 0) (.var 1)) (.tup [])) [(.ret (.tup []))] []), (.set 2 (.blt .min [(.bin .Add (.var 0) (.var 1))])), (.setd [(.inr [3, 4]), (.inr [5, 6])] (.tup [(.call "head_at" [(.bin .Add (.var 2) (.con (.int 1))), (.var 0)] [0, 1]), (.call "head_at" [(.bin .Add (.var 2) (.con (.int 1))), (.var 1)] [0, 1])])), (.ite (.cmp .Eq (.var 4) (.tup [])) [(.set 7 (.slc true false (.var 6) [(.con (.int 1))]))] [(.ite (.cmp .Eq (.var 6) (.tup [])) [(.set 7 (.slc true false (.var 4) [(.con (.int 1))]))] [(.set 7 (.ife (.call "less_at" [(.var 2), (.slc true false (.var 4) [(.con (.int 1))]), (.slc true false (.var 6) [(.con (.int 1))])] [0, 1, 2]) (.slc true false (.var 6) [(.con (.int 1))]) (.slc true false (.var 4) [(.con (.int 1))])))])]), (.ret (.bin .Add (.bin .Add (.call "both_raw" [(.var 3), (.var 5)] [0, 1]) (.tup [(.var 2)])) (.var 7)))]⟩
def f_both_in : Fd := ⟨["one", "other"], 2, [(.ret (.call "form_in" [(.call "both_raw" [(.var 0), (.var 1)] [0, 1])] [0]))]⟩
def f_implies_in : Fd := ⟨["one", "other"], 2, [(.ret (.cmp .Eq (.call "order_in" [(.call "both_raw" [(.var 0), (.var 1)] [0, 1])] [0]) (.call "order_in" [(.var 0)] [0])))]⟩
def f_head : Fd := ⟨["n", "worm"], 2, [(.ex (.call "need_number" [(.var 0), (.con (.int 0)), (.bin .Add (.glo "MOST_LETTER") (.con (.int 1)))] [0, 1, 2])), (.ex (.call "need_worm" [(.var 1)] [0])), (.ret (.idx (.call "head_at" [(.var 0), (.var 1)] [0, 1]) (.con (.int 0))))]⟩
def f_rest : Fd := ⟨["n", "worm"], 2, [(.ex (.call "need_number" [(.var 0), (.con (.int 0)), (.bin .Add (.glo "MOST_LETTER") (.con (.int 1)))] [0, 1, 2])), (.ex (.call "need_worm" [(.var 1)] [0])), (.ret (.idx (.call "head_at" [(.var 0), (.var 1)] [0, 1]) (.con (.int 1))))]⟩
def f_need_worms : Fd := ⟨["one", "other"], 2, [(.ex (.call "need_worm" [(.var 0)] [0])), (.ex (.call "need_worm" [(.var 1)] [0]))]⟩
def f_need_letters : Fd := ⟨["n", "worm"], 2, [(.ex (.call "need_worm" [(.var 1)] [0])), (.ite (.cmp .NotEq (.idx (.call "head_at" [(.var 0), (.var 1)] [0, 1]) (.con (.int 1))) (.tup [])) [(.rse "InvalidWorm" (.call "anew" [(.var 1)] [0]))] [])]⟩
def f_stands : Fd := ⟨["n", "one", "other"], 3, [(.ex (.call "need_number" [(.var 0), (.con (.int 0)), (.glo "MOST_LETTER")] [0, 1, 2])), (.ex (.call "need_letters" [(.var 0), (.var 1)] [0, 1])), (.ex (.call "need_letters" [(.var 0), (.var 2)] [0, 1])), (.ret (.ife (.call "less_at" [(.var 0), (.var 1), (.var 2)] [0, 1, 2]) (.neg (.con (.int 1))) (.ife (.call "less_at" [(.var 0), (.var 2), (.var 1)] [0, 1, 2]) (.con (.int 1)) (.con (.int 0)))))]⟩
def f_both : Fd := ⟨["one", "other"], 2, [(.ex (.call "need_worms" [(.var 0), (.var 1)] [0, 1])), (.ret (.call "both_in" [(.var 0), (.var 1)] [0, 1]))]⟩
def f_all_of : Fd := ⟨["worms"], 3, [(.ite (.or (.not (.isi (.var 0) "tuple")) (.not (.blt .all [(.cmpr (.call "is_worm_in" [(.var 1)] [0]) (.one 1) (.var 0) [] [1])]))) [(.rse "InvalidWorm" (.call "anew" [(.var 0)] [0]))] []), (.set 2 (.tup [])), (.for (.one 1) (.var 0) [(.set 2 (.call "both_in" [(.var 2), (.var 1)] [0, 1]))]), (.ret (.var 2))]⟩
def f_implies : Fd := ⟨["one", "other"], 2, [(.ex (.call "need_worms" [(.var 0), (.var 1)] [0, 1])), (.ret (.call "implies_in" [(.var 0), (.var 1)] [0, 1]))]⟩
def f__law_greatest : Fd := ⟨["one", "other", "both_told"], 5, [(.set 3 (.lst [(.bin .Add (.var 0) (.var 1)), (.bin .Add (.var 1) (.var 0)), (.var 2), (.bin .Add (.bin .Add (.tup [(.con (.int 0))]) (.var 0)) (.var 1)), (.tup [(.bin .Add (.blt .max [(.bin .Add (.bin .Add (.var 0) (.var 1)) (.tup [(.con (.int 0))]))]) (.con (.int 1)))])])), (.ret (.not (.blt .any [(.cmpr (.and (.call "_law_implies" [(.var 4), (.var 0)] [0, 1]) (.and (.call "_law_implies" [(.var 4), (.var 1)] [0, 1]) (.not (.call "_law_implies" [(.var 4), (.var 2)] [0, 1])))) (.one 4) (.var 3) [] [4])])))]⟩
def f_orders_of : Fd := ⟨["worm"], 3, [(.cell 1 (.lst [])), (.for (.one 2) (.rng [(.ife (.cmp .NotEq (.var 0) (.tup [])) (.bin .Add (.blt .max [(.var 0)]) (.con (.int 1))) (.con (.int 0)))]) [(.app 1 (.call "order_at" [(.var 2), (.idx (.call "head_at" [(.var 2), (.var 0)] [0, 1]) (.con (.int 0)))] [0, 1]))]), (.whl (.and (.cmp .NotEq (.var 1) (.lst [])) (.cmp .Eq (.idx (.var 1) (.neg (.con (.int 1)))) (.tup []))) [(.ex .bad)]), (.ret (.var 1))]⟩
def f_is_point_in : Fd := ⟨["value"], 4, [(.ite (.or (.not (.call "is_tuple" [(.var 0), (.con (.int 0)), (.glo "MOST_POINT")] [0, 1, 2])) (.not (.blt .all [(.cmpr (.call "is_ordinal_in" [(.var 1)] [0]) (.one 1) (.var 0) [] [1])]))) [(.ret (.con (.bl false)))] []), (.ite (.and (.cmp .NotEq (.var 0) (.tup [])) (.cmp .Eq (.idx (.var 0) (.neg (.con (.int 1)))) (.glo "ZERO"))) [(.ret (.con (.bl false)))] []), (.ret (.blt .all [(.cmpr (.cmp .LtE (.var 3) (.call "last_in" [(.var 2)] [0])) (.many [2, 3]) (.zip (.var 0) (.slc true false (.var 0) [(.con (.int 1))])) [] [2, 3])]))]⟩
def f_place_of : Fd := ⟨["point", "n"], 2, [(.ret (.ife (.cmp .Lt (.var 1) (.blt .len [(.var 0)])) (.idx (.var 0) (.var 1)) (.glo "ZERO")))]⟩
def f_sees_in : Fd := ⟨["n", "one", "other"], 4, [(.ite (.blt .any [(.cmpr (.cmp .NotEq (.call "place_of" [(.var 1), (.var 3)] [0, 1]) (.call "place_of" [(.var 2), (.var 3)] [0, 1])) (.one 3) (.rng [(.var 0)]) [] [3])]) [(.ret (.con (.bl false)))] []), (.ret (.cmp .Lt (.call "place_of" [(.var 2), (.var 0)] [0, 1]) (.call "place_of" [(.var 1), (.var 0)] [0, 1])))]⟩
def f_worm_at_in : Fd := ⟨["point", "worm"], 4, [(.ret (.blt .all [(.cmpr (.cmp .GtE (.call "place_of" [(.var 0), (.var 2)] [0, 1]) (.var 3)) (.many [2, 3]) (.enm (.call "orders_of" [(.var 1)] [0])) [] [2, 3])]))]⟩
def f_need_point : Fd := ⟨["point"], 1, [(.ite (.not (.call "is_point_in" [(.var 0)] [0])) [(.rse "InvalidPoint" (.call "anew" [(.var 0)] [0]))] [])]⟩
def f_is_point : Fd := ⟨["value"], 1, [(.ret (.call "is_point_in" [(.var 0)] [0]))]⟩
def f_sees : Fd := ⟨["n", "one", "other"], 3, [(.ex (.call "need_number" [(.var 0), (.con (.int 0)), (.glo "MOST_LETTER_points")] [0, 1, 2])), (.ex (.call "need_point" [(.var 1)] [0])), (.ex (.call "need_point" [(.var 2)] [0])), (.ret (.call "sees_in" [(.var 0), (.var 1), (.var 2)] [0, 1, 2]))]⟩
def f_point_of : Fd := ⟨["worm"], 1, [(.ex (.call "need_worm" [(.var 0)] [0])), (.ret (.blt .tuple [(.call "orders_of" [(.var 0)] [0])]))]⟩
def f_worm_at : Fd := ⟨["point", "worm"], 2, [(.ex (.call "need_point" [(.var 0)] [0])), (.ex (.call "need_worm" [(.var 1)] [0])), (.ret (.call "worm_at_in" [(.var 0), (.var 1)] [0, 1]))]⟩
def f__law_trimmed : Fd := ⟨["places"], 2, [(.set 1 (.blt .list [(.var 0)])), (.whl (.and (.cmp .NotEq (.var 1) (.lst [])) (.cmp .Eq (.idx (.var 1) (.neg (.con (.int 1)))) (.tup []))) [(.set 1 (.slc false true (.var 1) [(.neg (.con (.int 1)))]))]), (.ret (.blt .tuple [(.var 1)]))]⟩
def f__law_place : Fd := ⟨["point", "n"], 2, [(.ret (.ife (.cmp .Lt (.var 1) (.blt .len [(.var 0)])) (.idx (.var 0) (.var 1)) (.tup [])))]⟩
def f__law_point : Fd := ⟨["well"], 3, [(.cell 1 (.lst [(.call "_law_ordinal" [(.var 0), (.con (.int 2))] [0, 1])])), (.whl (.and (.cmp .NotEq (.idx (.var 1) (.neg (.con (.int 1)))) (.tup [])) (.and (.cmp .NotEq (.idx (.idx (.var 1) (.neg (.con (.int 1)))) (.neg (.con (.int 1)))) (.tup [])) (.cmp .Gt (.call "_law_draw" [(.var 0), (.con (.int 3))] [0, 1]) (.con (.int 0))))) [(.set 2 (.idx (.idx (.var 1) (.neg (.con (.int 1)))) (.neg (.con (.int 1))))), (.app 1 (.ife (.not (.call "_law_less" [(.var 2), (.slc false true (.var 2) [(.con (.int 1))])] [0, 1])) (.idx (.lst [(.var 2), (.slc false true (.var 2) [(.neg (.con (.int 1)))]), (.slc false true (.var 2) [(.con (.int 1))])]) (.call "_law_draw" [(.var 0), (.con (.int 3))] [0, 1])) (.var 2)))]), (.ret (.call "_law_trimmed" [(.var 1)] [0]))]⟩
def f__law_is_point : Fd := ⟨["value"], 3, [(.ite (.or (.not (.isi (.var 0) "tuple")) (.or (.cmp .Gt (.blt .len [(.var 0)]) (.con (.int 20))) (.and (.cmp .NotEq (.var 0) (.tup [])) (.cmp .Eq (.idx (.var 0) (.neg (.con (.int 1)))) (.tup []))))) [(.ret (.con (.bl false)))] []), (.for (.one 1) (.rng [(.con (.int 1)), (.blt .len [(.var 0)])]) [(.set 2 (.ife (.cmp .NotEq (.idx (.var 0) (.bin .Sub (.var 1) (.con (.int 1)))) (.tup [])) (.idx (.idx (.var 0) (.bin .Sub (.var 1) (.con (.int 1)))) (.neg (.con (.int 1)))) (.tup []))), (.ite (.call "_law_less" [(.var 2), (.idx (.var 0) (.var 1))] [0, 1]) [(.ret (.con (.bl false)))] [])]), (.ret (.con (.bl true)))]⟩
def f__law_has : Fd := ⟨["point", "worm"], 4, [(.ret (.not (.blt .any [(.cmpr (.call "_law_less" [(.call "_law_place" [(.var 0), (.var 2)] [0, 1]), (.var 3)] [0, 1]) (.many [2, 3]) (.enm (.call "_law_heads" [(.var 1), (.con (.int 7))] [0, 1])) [] [2, 3])])))]⟩
def f__law_sees : Fd := ⟨["n", "one", "other"], 4, [(.ite (.blt .any [(.cmpr (.cmp .NotEq (.call "_law_place" [(.var 1), (.var 3)] [0, 1]) (.call "_law_place" [(.var 2), (.var 3)] [0, 1])) (.one 3) (.rng [(.var 0)]) [] [3])]) [(.ret (.con (.bl false)))] []), (.ret (.call "_law_less" [(.call "_law_place" [(.var 2), (.var 0)] [0, 1]), (.call "_law_place" [(.var 1), (.var 0)] [0, 1])] [0, 1]))]⟩
def f_next_in : Fd := ⟨["worm", "turn"], 5, [(.ite (.cmp .Eq (.idx (.var 0) (.con (.int 0))) (.con (.int 0))) [(.ret (.slc true false (.var 0) [(.con (.int 1))]))] []), (.set 2 (.bin .Sub (.idx (.var 0) (.con (.int 0))) (.con (.int 1)))), (.sets [3, 4] (.call "head_at" [(.bin .Add (.var 2) (.con (.int 1))), (.slc true false (.var 0) [(.con (.int 1))])] [0, 1])), (.ret (.bin .Add (.bin .Mult (.bin .Add (.tup [(.var 2)]) (.var 3)) (.bin .Add (.var 1) (.con (.int 1)))) (.var 4)))]⟩
def f_behind_in : Fd := ⟨["worm", "turns"], 4, [(.cell 2 (.lst [(.var 0)])), (.for (.one 3) (.rng [(.con (.int 1)), (.bin .Add (.var 1) (.con (.int 1)))]) [(.ite (.cmp .Eq (.idx (.var 2) (.neg (.con (.int 1)))) (.tup [])) [(.ret (.var 2))] []), (.app 2 (.call "next_in" [(.idx (.var 2) (.neg (.con (.int 1)))), (.var 3)] [0, 1]))]), (.ret (.var 2))]⟩
def f_last_behind : Fd := ⟨["worm", "turns"], 3, [(.for (.one 2) (.rng [(.con (.int 1)), (.bin .Add (.var 1) (.con (.int 1)))]) [(.ite (.cmp .Eq (.var 0) (.tup [])) [(.ret (.tup [(.tup []), (.bin .Sub (.var 2) (.con (.int 1)))]))] []), (.set 0 (.call "next_in" [(.var 0), (.var 2)] [0, 1]))]), (.ret (.tup [(.var 0), (.var 1)]))]⟩
def f_next_worm : Fd := ⟨["worm", "turn"], 2, [(.ex (.call "need_worm" [(.var 0)] [0])), (.ite (.cmp .Eq (.var 0) (.tup [])) [(.rse "InvalidWorm" (.call "anew" [(.var 0)] [0]))] []), (.ex (.call "need_number" [(.var 1), (.con (.int 1)), (.glo "MOST_TURNS")] [0, 1, 2])), (.ret (.call "next_in" [(.var 0), (.var 1)] [0, 1]))]⟩
def f_behind : Fd := ⟨["worm", "turns"], 2, [(.ex (.call "need_worm" [(.var 0)] [0])), (.ex (.call "need_number" [(.var 1), (.con (.int 0)), (.glo "MOST_TURNS")] [0, 1, 2])), (.ret (.idx (.call "last_behind" [(.var 0), (.var 1)] [0, 1]) (.con (.int 0))))]⟩
def f_turns_of : Fd := ⟨["worm", "most"], 4, [(.ex (.call "need_worm" [(.var 0)] [0])), (.ex (.call "need_number" [(.var 1), (.con (.int 0)), (.glo "MOST_TURNS")] [0, 1, 2])), (.sets [2, 3] (.call "last_behind" [(.var 0), (.var 1)] [0, 1])), (.ret (.ife (.cmp .Eq (.var 2) (.tup [])) (.var 3) (.con .non)))]⟩
def f_orders : Fd := ⟨["worm", "turns"], 3, [(.ex (.call "need_worm" [(.var 0)] [0])), (.ex (.call "need_number" [(.var 1), (.con (.int 0)), (.glo "MOST_ORDERS")] [0, 1, 2])), (.ret (.blt .tuple [(.cmpr (.call "order_in" [(.var 2)] [0]) (.one 2) (.call "behind_in" [(.var 0), (.var 1)] [0, 1]) [] [2])]))]⟩
def f_longest_above : Fd := ⟨["worm", "n"], 3, [(.set 2 (.con (.int 0))), (.whl (.and (.cmp .Lt (.var 2) (.blt .len [(.var 0)])) (.cmp .Gt (.idx (.var 0) (.var 2)) (.var 1))) [(.aug 2 .Add (.con (.int 1)))]), (.ret (.slc false true (.var 0) [(.var 2)]))]⟩
def f_piece_end : Fd := ⟨["worm", "turn"], 4, [(.ite (.cmp .Eq (.var 0) (.tup [])) [(.ret (.var 1))] []), (.ite (.cmp .Gt (.blt .len [(.var 0)]) (.con (.int 2))) [(.ret (.con .non))] []), (.ite (.cmp .Eq (.idx (.var 0) (.con (.int 0))) (.con (.int 1))) [(.ret (.call "repeated_end" [(.slc true false (.var 0) [(.con (.int 1))]), (.var 1)] [0, 1]))] []), (.set 2 (.bin .Sub (.idx (.var 0) (.con (.int 0))) (.con (.int 1)))), (.set 3 (.call "longest_above" [(.slc true false (.var 0) [(.con (.int 1))]), (.var 2)] [0, 1])), (.ite (.cmp .Gt (.var 1) (.con (.int 60))) [(.ret (.con .non))] []), (.ret (.call "worm_end" [(.bin .Add (.bin .Mult (.bin .Add (.tup [(.var 2)]) (.var 3)) (.bin .Add (.var 1) (.con (.int 1)))) (.slc true false (.var 0) [(.bin .Add (.con (.int 1)) (.blt .len [(.var 3)]))])), (.bin .Add (.var 1) (.con (.int 1)))] [0, 1]))]⟩
def f_repeated_end : Fd := ⟨["inner", "turn"], 4, [(.ite (.cmp .Eq (.var 0) (.tup [])) [(.ret (.bin .Add (.bin .Mult (.con (.int 2)) (.var 1)) (.con (.int 2))))] []), (.set 2 (.bin .Add (.var 1) (.con (.int 1)))), (.for (.one 3) (.rng [(.bin .Add (.var 1) (.con (.int 1)))]) [(.set 2 (.call "piece_end" [(.var 0), (.bin .Add (.var 2) (.con (.int 1)))] [0, 1])), (.ite (.or (.cmp .Is (.var 2) (.con .non)) (.cmp .Gt (.var 2) (.glo "MOST_END"))) [(.ret (.con .non))] [])]), (.ret (.var 2))]⟩
def f_worm_end : Fd := ⟨["worm", "turn"], 5, [(.par [2, 3] [false, false] [(.var 1), (.con (.int 0))]), (.for (.one 4) (.rng [(.bin .Add (.blt .len [(.var 0)]) (.con (.int 1)))]) [(.ite (.or (.cmp .Eq (.var 4) (.blt .len [(.var 0)])) (.cmp .Eq (.idx (.var 0) (.var 4)) (.con (.int 0)))) [(.set 2 (.call "piece_end" [(.slc true true (.var 0) [(.var 3), (.var 4)]), (.var 2)] [0, 1])), (.ite (.or (.cmp .Is (.var 2) (.con .non)) (.cmp .Gt (.var 2) (.glo "MOST_END"))) [(.ret (.con .non))] []), (.par [2, 3] [false, false] [(.bin .Add (.var 2) (.blt .int [(.cmp .Lt (.var 4) (.blt .len [(.var 0)]))])), (.bin .Add (.var 4) (.con (.int 1)))])] [])]), (.ret (.ife (.cmp .LtE (.var 2) (.glo "MOST_END")) (.var 2) (.con .non)))]⟩
def f_ends_at : Fd := ⟨["worm", "turn"], 2, [(.ex (.call "need_worm" [(.var 0)] [0])), (.ex (.call "need_number" [(.var 1), (.con (.int 1)), (.glo "MOST_TURN")] [0, 1, 2])), (.ret (.call "worm_end" [(.var 0), (.var 1)] [0, 1]))]⟩
def f__law_next : Fd := ⟨["worm", "turn"], 4, [(.ite (.cmp .Eq (.idx (.var 0) (.con (.int 0))) (.con (.int 0))) [(.ret (.slc true false (.var 0) [(.con (.int 1))]))] []), (.par [2, 3] [false, false] [(.bin .Sub (.idx (.var 0) (.con (.int 0))) (.con (.int 1))), (.con (.int 1))]), (.whl (.and (.cmp .Lt (.var 3) (.blt .len [(.var 0)])) (.cmp .Gt (.idx (.var 0) (.var 3)) (.var 2))) [(.set 3 (.bin .Add (.var 3) (.con (.int 1))))]), (.ret (.bin .Add (.bin .Mult (.bin .Add (.tup [(.var 2)]) (.slc true true (.var 0) [(.con (.int 1)), (.var 3)])) (.bin .Add (.var 1) (.con (.int 1)))) (.slc true false (.var 0) [(.var 3)])))]⟩
def f__law_ends : Fd := ⟨["worm", "turn"], 7, [(.par [2, 3] [true, false] [(.lst [(.lst [])]), (.var 1)]), (.for (.one 4) (.var 0) [(.ite (.cmp .Eq (.var 4) (.con (.int 0))) [(.app 2 (.lst []))] [(.ex .bad)])]), (.for (.many [5, 6]) (.enm (.var 2)) [(.set 3 (.call "_law_piece" [(.blt .tuple [(.var 6)]), (.bin .Add (.var 3) (.blt .int [(.cmp .Gt (.var 5) (.con (.int 0)))]))] [0, 1])), (.ite (.or (.cmp .Is (.var 3) (.con .non)) (.cmp .Gt (.var 3) (.bin .Pow (.con (.int 10)) (.con (.int 18))))) [(.ret (.con .non))] [])]), (.ret (.var 3))]⟩
def f__law_piece : Fd := ⟨["piece", "turn"], 4, [(.ite (.cmp .Eq (.var 0) (.tup [])) [(.ret (.var 1))] []), (.ite (.or (.cmp .Gt (.blt .len [(.var 0)]) (.con (.int 2))) (.and (.cmp .Gt (.idx (.var 0) (.con (.int 0))) (.con (.int 1))) (.cmp .Gt (.var 1) (.con (.int 40))))) [(.ret (.con .non))] []), (.ite (.cmp .Gt (.idx (.var 0) (.con (.int 0))) (.con (.int 1))) [(.ret (.call "_law_ends" [(.call "_law_next" [(.var 0), (.var 1)] [0, 1]), (.bin .Add (.var 1) (.con (.int 1)))] [0, 1]))] []), (.set 2 (.bin .Add (.var 1) (.con (.int 1)))), (.ite (.cmp .Eq (.blt .len [(.var 0)]) (.con (.int 1))) [(.ret (.bin .Add (.bin .Add (.var 2) (.var 1)) (.con (.int 1))))] []), (.for (.one 3) (.rng [(.bin .Add (.var 1) (.con (.int 1)))]) [(.set 2 (.call "_law_piece" [(.slc true false (.var 0) [(.con (.int 1))]), (.bin .Add (.var 2) (.con (.int 1)))] [0, 1])), (.ite (.or (.cmp .Is (.var 2) (.con .non)) (.cmp .Gt (.var 2) (.bin .Pow (.con (.int 10)) (.con (.int 18))))) [(.ret (.con .non))] [])]), (.ret (.var 2))]⟩
def f__law_source : Fd := ⟨["script", "k"], 7, [(.set 2 (.ife (.cmp .Lt (.var 1) (.blt .len [(.var 0)])) (.blt .int [(.idx (.var 0) (.var 1))]) (.bin .Add (.bin .Mult (.con (.int 41)) (.var 1)) (.con (.int 5))))), (.set 3 (.bin .Add (.con (.int 17)) (.bin .Mult (.con (.int 3)) (.blt .len [(.var 0)])))), (.for (.many [4, 5]) (.enm (.var 0)) [(.set 3 (.bin .Mod (.blt .int [(.bin .Add (.bin .Mult (.var 3) (.con (.int 1000003))) (.bin .Mult (.blt .int [(.var 5)]) (.bin .Add (.bin .Mult (.con (.int 2)) (.var 4)) (.con (.int 3)))))]) (.bin .Add (.bin .Pow (.con (.int 10)) (.con (.int 21))) (.con (.int 117)))))]), (.set 6 (.bin .Mod (.blt .int [(.bin .Add (.bin .Add (.bin .Add (.bin .Mult (.blt .abs [(.var 2)]) (.con (.int 7351))) (.bin .Mult (.con (.int 3)) (.blt .int [(.cmp .Lt (.var 2) (.con (.int 0)))]))) (.bin .Mult (.var 3) (.con (.int 131)))) (.bin .Mult (.con (.int 1009)) (.var 1)))]) (.bin .Add (.bin .Pow (.con (.int 10)) (.con (.int 24))) (.con (.int 7))))), (.ret (.lst [(.blt .max [(.con (.int 0)), (.bin .Sub (.blt .abs [(.var 2)]) (.bin .Pow (.con (.int 10)) (.con (.int 18))))]), (.var 6), (.con (.int 1))]))]⟩
def f__law_pick : Fd := ⟨["source", "many"], 5, [(.ite (.cmp .Gt (.idx (.var 0) (.con (.int 0))) (.con (.int 0))) [(.set 2 (.bin .Mod (.blt .int [(.idx (.var 0) (.con (.int 0)))]) (.var 1))), (.sub 0 (.con (.int 0)) (.bin .FloorDiv (.idx (.var 0) (.con (.int 0))) (.var 1))), (.ret (.var 2))] []), (.sub 0 (.con (.int 2)) (.bin .Add (.idx (.var 0) (.con (.int 2))) (.con (.int 1)))), (.set 3 (.idx (.var 0) (.con (.int 2)))), (.set 4 (.bin .Mod (.blt .int [(.bin .Add (.bin .Add (.bin .Mult (.bin .Mult (.bin .Add (.idx (.var 0) (.con (.int 1))) (.con (.int 61))) (.bin .Add (.bin .Mult (.con (.int 2)) (.var 3)) (.con (.int 5)))) (.con (.int 736338717))) (.bin .Mult (.bin .Mult (.var 3) (.var 3)) (.con (.int 90001)))) (.con (.int 29)))]) (.bin .Add (.bin .Pow (.con (.int 10)) (.con (.int 25))) (.con (.int 13))))), (.set 4 (.bin .Mod (.blt .int [(.bin .Add (.bin .Add (.bin .Mult (.var 4) (.var 4)) (.bin .Mult (.con (.int 777)) (.var 3))) (.idx (.var 0) (.con (.int 1))))]) (.bin .Add (.bin .Pow (.con (.int 10)) (.con (.int 27))) (.con (.int 103))))), (.set 4 (.bin .Mod (.blt .int [(.bin .Add (.bin .Add (.bin .Mult (.bin .Mult (.var 4) (.var 4)) (.con (.int 3))) (.bin .Mult (.con (.int 5)) (.var 4))) (.var 3))]) (.bin .Add (.bin .Pow (.con (.int 10)) (.con (.int 29))) (.con (.int 319))))), (.ret (.bin .Mod (.blt .int [(.bin .FloorDiv (.var 4) (.con (.int 100003)))]) (.var 1)))]⟩
def f__law_chain : Fd := ⟨["worm"], 3, [(.set 1 (.tup [(.con (.str "top"))])), (.for (.one 2) (.rev (.var 0)) [(.set 1 (.tup [(.con (.str "some")), (.var 2), (.var 1)]))]), (.ret (.var 1))]⟩
def f__law_run : Fd := ⟨["worm", "turn", "most"], 3, [(.whl (.cmp .NotEq (.var 0) (.tup [])) [(.ite (.or (.cmp .Gt (.blt .len [(.var 0)]) (.con (.int 300))) (.cmp .Gt (.var 1) (.var 2))) [(.ret (.con .non))] []), (.par [0, 1] [false, false] [(.call "_law_next" [(.var 0), (.var 1)] [0, 1]), (.bin .Add (.var 1) (.con (.int 1)))])]), (.ret (.var 1))]⟩
def f__law_caught : Fd := ⟨["which", "worm", "number"], 5, [(.set 3 (.con .non)), (.trk [(.ite (.cmp .Eq (.var 0) (.con (.int 0))) [(.ex (.call "next_worm" [(.var 1), (.var 2)] [0, 1]))] [(.ite (.cmp .Eq (.var 0) (.con (.int 1))) [(.ex (.call "behind" [(.var 1), (.var 2)] [0, 1]))] [(.ite (.cmp .Eq (.var 0) (.con (.int 2))) [(.ex (.call "turns_of" [(.var 1), (.var 2)] [0, 1]))] [(.ite (.cmp .Eq (.var 0) (.con (.int 3))) [(.ex (.call "orders" [(.var 1), (.var 2)] [0, 1]))] [(.ex (.call "ends_at" [(.var 1), (.var 2)] [0, 1]))])])])])] "WormsError" 4 3), (.ret (.ife (.cmp .Is (.var 3) (.con .non)) (.con .non) (.tup [(.isc (.var 3) "InvalidNumber"), (.isc (.var 3) "InvalidWorm"), (.blt .repr [(.fld (.var 3))])])))]⟩
def f_worms_of : Fd := ⟨["length", "most"], 6, [(.set 2 (.lst [(.tup [])])), (.for (.one 3) (.rng [(.var 0)]) [(.set 2 .bad)]), (.ret (.var 2))]⟩
def f_is_in_form : Fd := ⟨["worm"], 1, [(.ex (.call "need_worm" [(.var 0)] [0])), (.ret (.cmp .Eq (.call "form_in" [(.var 0)] [0]) (.var 0)))]⟩
def f_forms_in : Fd := ⟨["length", "letter"], 5, [(.cell 2 (.lst [])), (.for (.one 3) (.rng [(.bin .Add (.var 0) (.con (.int 1)))]) [(.ext 2 (.cmpr (.var 4) (.one 4) (.call "worms_of" [(.var 3), (.var 1)] [0, 1]) [(.cmp .Eq (.call "form_in" [(.var 4)] [0]) (.var 4))] [4]))]), (.ret .bad)]⟩
def f_need_told : Fd := ⟨["length", "letter"], 2, [(.ex (.call "need_number" [(.var 0), (.con (.int 0)), (.glo "MOST_TOLD")] [0, 1, 2])), (.ex (.call "need_number" [(.var 1), (.con (.int 0)), (.glo "MOST_TOLD_LETTER")] [0, 1, 2]))]⟩
def f_forms_to : Fd := ⟨["length", "letter"], 2, [(.ex (.call "need_told" [(.var 0), (.var 1)] [0, 1])), (.ret (.blt .tuple [(.call "forms_in" [(.var 0), (.var 1)] [0, 1])]))]⟩
def f_forms_number : Fd := ⟨["length", "letter"], 2, [(.ex (.call "need_told" [(.var 0), (.var 1)] [0, 1])), (.ret (.blt .len [(.call "forms_in" [(.var 0), (.var 1)] [0, 1])]))]⟩
def f__law_pieces : Fd := ⟨["worm"], 4, [(.par [1, 2] [true, true] [(.lst []), (.lst [])]), (.for (.one 3) (.var 0) [(.ite (.cmp .Eq (.var 3) (.con (.int 0))) [(.app 1 (.blt .tuple [(.var 2)])), (.cell 2 (.lst []))] [(.app 2 (.bin .Sub (.var 3) (.con (.int 1))))])]), (.ret (.blt .tuple [(.bin .Add (.var 1) (.lst [(.blt .tuple [(.var 2)])]))]))]⟩
def f__law_is_form : Fd := ⟨["worm"], 6, [(.ite (.cmp .Eq (.blt .max [(.bin .Add (.var 0) (.tup [(.con (.int 0))]))]) (.con (.int 0))) [(.ret (.con (.bl true)))] []), (.set 1 (.call "_law_pieces" [(.var 0)] [0])), (.set 2 (.cmpr (.call "_law_order" [(.var 3)] [0]) (.one 3) (.var 1) [] [3])), (.set 4 (.not (.blt .any [(.cmpr (.call "_law_less" [(.idx (.var 2) (.var 5)), (.idx (.var 2) (.bin .Sub (.var 5) (.con (.int 1))))] [0, 1]) (.one 5) (.rng [(.con (.int 1)), (.blt .len [(.var 2)])]) [] [5])]))), (.ret (.and (.var 4) (.and (.cmp .NotEq (.idx (.var 2) (.neg (.con (.int 1)))) (.tup [])) (.blt .all [(.cmpr (.call "_law_is_form" [(.var 3)] [0]) (.one 3) (.var 1) [] [3])]))))]⟩
def f__law_all : Fd := ⟨["length", "letter"], 8, [(.par [2, 3] [false, false] [(.lst [(.tup [])]), (.lst [(.tup [])])]), (.for (.one 4) (.rng [(.var 0)]) [(.cell 5 (.lst [])), (.for (.one 6) (.var 3) [(.ext 5 (.cmpr (.bin .Add (.var 6) (.tup [(.var 7)])) (.one 7) (.rng [(.bin .Add (.var 1) (.con (.int 1)))]) [] [7]))]), (.par [2, 3] [false, false] [(.bin .Add (.var 2) (.var 5)), (.var 5)])]), (.ret (.var 2))]⟩
def f_natural_in : Fd := ⟨["one", "other"], 2, [(.ret (.blt .tuple [.bad]))]⟩
def f_natural_product_in : Fd := ⟨["one", "other"], 5, [(.cell 2 (.lst [])), (.for (.one 3) (.var 0) [(.ext 2 (.cmpr (.call "natural_in" [(.var 3), (.var 4)] [0, 1]) (.one 4) (.var 1) [] [4]))]), (.ret (.blt .tuple [.bad]))]⟩
def f_natural_sum : Fd := ⟨["one", "other"], 2, [(.ex (.call "need_ordinals" [(.var 0), (.var 1)] [0, 1])), (.ret (.call "natural_in" [(.var 0), (.var 1)] [0, 1]))]⟩
def f_natural_product : Fd := ⟨["one", "other"], 2, [(.ex (.call "need_ordinals" [(.var 0), (.var 1)] [0, 1])), (.ret (.call "natural_product_in" [(.var 0), (.var 1)] [0, 1]))]⟩
def f__law_times : Fd := ⟨["one", "other"], 4, [(.set 2 (.tup [])), (.ite (.cmp .Eq (.var 0) (.tup [])) [(.ret (.var 2))] []), (.for (.one 3) (.var 1) [(.set 2 (.call "_law_sum" [(.var 2), (.ife (.cmp .Eq (.var 3) (.tup [])) (.var 0) (.tup [(.call "_law_sum" [(.idx (.var 0) (.con (.int 0))), (.var 3)] [0, 1])]))] [0, 1]))]), (.ret (.var 2))]⟩
def f__law_listed : Fd := ⟨["numbers"], 4, [(.cell 1 (.lst [])), (.for (.one 2) (.rng [(.blt .len [(.var 0)])]) [(.set 3 (.bin .Sub (.bin .Sub (.blt .len [(.var 0)]) (.con (.int 1))) (.var 2))), (.ext 1 (.bin .Mult (.lst [(.bin .Mult (.tup [(.tup [])]) (.var 3))]) (.idx (.var 0) (.var 3))))]), (.ret (.blt .tuple [(.var 1)]))]⟩
def f__law_by_lists : Fd := ⟨["one", "other"], 5, [(.cell 2 (.bin .Mult (.lst [(.con (.int 0))]) (.bin .Sub (.bin .Add (.blt .len [(.var 0)]) (.blt .len [(.var 1)])) (.con (.int 1))))), (.set 3 (.bin .Sub (.blt .len [(.var 0)]) (.con (.int 1)))), (.for (.one 4) (.rng [(.con (.int 1)), (.blt .len [(.var 1)])]) [(.sub 2 (.bin .Add (.var 3) (.var 4)) (.bin .Add (.idx (.var 2) (.bin .Add (.var 3) (.var 4))) (.idx (.var 1) (.var 4))))]), (.ite (.cmp .Gt (.idx (.var 1) (.con (.int 0))) (.con (.int 0))) [(.sub 2 (.var 3) (.bin .Mult (.idx (.var 0) (.var 3)) (.idx (.var 1) (.con (.int 0))))), (.for (.one 4) (.rng [(.var 3)]) [(.sub 2 (.var 4) (.idx (.var 0) (.var 4)))])] []), (.ret (.var 2))]⟩
def f__law_toward : Fd := ⟨["ordinal", "n"], 3, [(.ite (.or (.cmp .Eq (.var 0) (.tup [])) (.cmp .Eq (.idx (.var 0) (.neg (.con (.int 1)))) (.tup []))) [(.ret (.slc false true (.var 0) [(.neg (.con (.int 1)))]))] []), (.set 2 (.idx (.var 0) (.neg (.con (.int 1))))), (.ret (.bin .Add (.slc false true (.var 0) [(.neg (.con (.int 1)))]) (.ife (.cmp .Eq (.idx (.var 2) (.neg (.con (.int 1)))) (.tup [])) (.bin .Mult (.tup [(.slc false true (.var 2) [(.neg (.con (.int 1)))])]) (.var 1)) (.tup [(.call "_law_toward" [(.var 2), (.var 1)] [0, 1])]))))]⟩
def f__law_numbers : Fd := ⟨["well"], 3, [(.cell 1 (.lst [])), (.for (.one 2) (.rng [(.bin .Add (.con (.int 1)) (.call "_law_draw" [(.var 0), (.con (.int 3))] [0, 1]))]) [(.app 1 (.call "_law_draw" [(.var 0), (.con (.int 4))] [0, 1]))]), (.ret (.bin .Add (.slc false true (.var 1) [(.neg (.con (.int 1)))]) (.lst [(.bin .Add (.idx (.var 1) (.neg (.con (.int 1)))) (.con (.int 1)))])))]⟩
def f_turn_in : Fd := ⟨["worm", "ordinal"], 3, [(.set 2 (.con (.int 1))), (.whl (.cmp .LtE (.call "order_in" [(.call "next_in" [(.var 0), (.var 2)] [0, 1])] [0]) (.var 1)) [(.aug 2 .Add (.con (.int 1)))]), (.ret (.var 2))]⟩
def f_halfway_in : Fd := ⟨["one", "other"], 6, [(.par [2, 3] [false, false] [(.call "order_in" [(.var 0)] [0]), (.call "order_in" [(.var 1)] [0])]), (.ite (.cmp .LtE (.var 3) (.bin .Add (.var 2) (.tup [(.tup [])]))) [(.ret (.con .non))] []), (.for (.one 4) (.rng [(.bin .Add (.blt .len [(.call "form_in" [(.var 0)] [0])]) (.con (.int 2)))]) [(.for (.one 5) (.call "worms_of" [(.var 4), (.glo "MOST_LETTER")] [0, 1]) [(.ite (.and (.cmp .Eq (.call "form_in" [(.var 5)] [0]) (.var 5)) (.chn .Lt .Lt (.var 2) (.call "order_in" [(.var 5)] [0]) (.var 3))) [(.ret (.var 5))] [])])]), (.ret (.call "form_in" [(.bin .Add (.tup [(.con (.int 0))]) (.var 0))] [0]))]⟩
def f_turn_above : Fd := ⟨["worm", "ordinal"], 2, [(.ex (.call "need_worm" [(.var 0)] [0])), (.ite (.or (.cmp .Eq (.var 0) (.tup [])) (.cmp .Eq (.idx (.var 0) (.con (.int 0))) (.con (.int 0)))) [(.rse "InvalidWorm" (.call "anew" [(.var 0)] [0]))] []), (.ex (.call "need_ordinal" [(.var 1)] [0])), (.ite (.cmp .GtE (.var 1) (.call "order_in" [(.var 0)] [0])) [(.rse "InvalidOrdinal" (.call "anew" [(.var 1)] [0]))] []), (.ret (.call "turn_in" [(.var 0), (.var 1)] [0, 1]))]⟩
def f_halfway : Fd := ⟨["one", "other"], 2, [(.ex (.call "need_worms" [(.var 0), (.var 1)] [0, 1])), (.ret (.call "halfway_in" [(.var 0), (.var 1)] [0, 1]))]⟩
def f__law_sums_right : Fd := ⟨["a", "b", "c"], 4, [(.ite (.or (.cmp .NotEq (.call "plus" [(.var 0), (.var 1)] [0, 1]) (.call "_law_plus" [(.var 0), (.var 1)] [0, 1])) (.or (.cmp .NotEq (.call "times" [(.var 0), (.var 1)] [0, 1]) (.call "_law_times" [(.var 0), (.var 1)] [0, 1])) (.or (.cmp .NotEq (.call "plus" [(.call "plus" [(.var 0), (.var 1)] [0, 1]), (.var 2)] [0, 1]) (.call "plus" [(.var 0), (.call "plus" [(.var 1), (.var 2)] [0, 1])] [0, 1])) (.cmp .NotEq (.call "times" [(.var 0), (.call "plus" [(.var 1), (.var 2)] [0, 1])] [0, 1]) (.call "plus" [(.call "times" [(.var 0), (.var 1)] [0, 1]), (.call "times" [(.var 0), (.var 2)] [0, 1])] [0, 1]))))) [(.ret (.con (.bl false)))] []), (.ite (.or (.cmp .NotEq (.call "natural_sum" [(.var 0), (.var 1)] [0, 1]) (.blt .tuple [.bad])) (.or (.cmp .NotEq (.call "natural_sum" [(.var 0), (.call "natural_sum" [(.var 1), (.var 2)] [0, 1])] [0, 1]) (.call "natural_sum" [(.call "natural_sum" [(.var 0), (.var 1)] [0, 1]), (.var 2)] [0, 1])) (.cmp .Gt (.call "plus" [(.var 0), (.var 1)] [0, 1]) (.call "natural_sum" [(.var 0), (.var 1)] [0, 1])))) [(.ret (.con (.bl false)))] []), (.ite (.or (.cmp .NotEq (.call "natural_product" [(.var 0), (.var 1)] [0, 1]) (.call "natural_product" [(.var 1), (.var 0)] [0, 1])) (.cmp .NotEq (.call "natural_product" [(.var 0), (.call "natural_sum" [(.var 1), (.var 2)] [0, 1])] [0, 1]) (.call "natural_sum" [(.call "natural_product" [(.var 0), (.var 1)] [0, 1]), (.call "natural_product" [(.var 0), (.var 2)] [0, 1])] [0, 1]))) [(.ret (.con (.bl false)))] []), (.set 3 (.call "minus" [(.call "plus" [(.var 0), (.var 1)] [0, 1]), (.var 0)] [0, 1])), (.ite (.or (.cmp .NotEq (.var 3) (.var 1)) (.or (.cmp .NotEq (.cmp .Is (.call "minus" [(.var 0), (.var 1)] [0, 1]) (.con .non)) (.cmp .Lt (.var 0) (.var 1))) (.and (.cmp .IsNot (.call "minus" [(.var 0), (.var 1)] [0, 1]) (.con .non)) (.cmp .NotEq (.call "plus" [(.var 1), (.call "minus" [(.var 0), (.var 1)] [0, 1])] [0, 1]) (.var 0))))) [(.ret (.con (.bl false)))] []), (.ret (.and (.cmp .Eq (.cmp .Lt (.call "plus" [(.var 0), (.var 1)] [0, 1]) (.call "plus" [(.var 0), (.var 2)] [0, 1])) (.cmp .Lt (.var 1) (.var 2))) (.and (.cmp .Eq (.call "times" [(.var 0), (.call "number" [(.con (.int 1))] [0])] [0, 1]) (.var 0)) (.and (.cmp .Eq (.call "times" [(.call "number" [(.con (.int 1))] [0]), (.var 0)] [0, 1]) (.var 0)) (.and (.cmp .Eq (.call "plus" [(.var 0), (.tup [])] [0, 1]) (.var 0)) (.cmp .Eq (.call "plus" [(.tup []), (.var 0)] [0, 1]) (.var 0)))))))]⟩
def f__law_toward_right : Fd := ⟨["a", "b"], 7, [(.set 2 (.ife (.cmp .Eq (.var 0) (.tup [])) (.con (.str "zero")) (.ife (.cmp .Eq (.idx (.var 0) (.neg (.con (.int 1)))) (.tup [])) (.con (.str "successor")) (.con (.str "limit"))))), (.ite (.or (.cmp .NotEq (.call "kind_of" [(.var 0)] [0]) (.var 2)) (.cmp .NotEq (.call "last" [(.var 0)] [0]) (.ife (.cmp .NotEq (.var 0) (.tup [])) (.idx (.var 0) (.neg (.con (.int 1)))) (.tup [])))) [(.ret (.con (.bl false)))] []), (.ite (.cmp .NotEq (.var 2) (.con (.str "limit"))) [(.ret (.cmp .Eq (.call "toward" [(.var 0), (.con (.int 3))] [0, 1]) (.slc false true (.var 0) [(.neg (.con (.int 1)))])))] []), (.set 3 (.cmpr (.call "toward" [(.var 0), (.var 4)] [0, 1]) (.one 4) (.rng [(.con (.int 8))]) [] [4])), (.ite (.or (.cmp .NotEq (.cmpr (.con (.int 1)) (.many [5, 6]) (.zip (.var 3) (.slc true false (.var 3) [(.con (.int 1))])) [(.not (.cmp .Lt (.var 5) (.var 6)))] [5, 6]) (.lst [])) (.not (.cmp .Lt (.idx (.var 3) (.neg (.con (.int 1)))) (.var 0)))) [(.ret (.con (.bl false)))] []), (.ret (.and (.cmp .Eq (.call "toward" [(.con (.int 2)), (.var 0)] [1, 0]) (.idx (.var 3) (.con (.int 2)))) (.or (.not (.cmp .Lt (.var 1) (.call "toward" [(.var 0), (.con (.int 0))] [0, 1]))) (.cmp .Lt (.var 1) (.idx (.var 3) (.con (.int 5)))))))]⟩
end Fn

set_option linter.all false
set_option maxRecDepth 100000
/-! Wl1 -/
namespace Wk
open PM PY Fn
open PySem (Str)
variable {P : Pr}
def wl (a b c : Int) : Ob := .lst [.int a, .int b, .int c]
/-- a well stands in the cell j, drawn from at most B times -/
def WellAt (m : Mu) (j B : Nat) : Prop := ∃ a b c : Int, m[j]? = some (wl a b c) ∧ 0 ≤ a ∧ 0 ≤ b ∧ b ≤ 10 ^ 29 ∧ 0 ≤ c ∧ c ≤ (B : Int)
theorem bop_pow (i : Int) (j : Nat) (h : i.natAbs < 2 ^ 64) (g : j ≤ 1000) : bop .Pow (.int i) (.int j) = some (.int (i ^ j), false) := by
  have h1 : (decide ((0 : Int) ≤ (j : Int)) && decide ((j : Int) ≤ 1000) && decide (i.natAbs < 2 ^ 64)) = true := by
    simp only [Bool.and_eq_true, decide_eq_true_eq]; omega
  simp only [bop, h1, if_true, Int.toNat_natCast]
@[simp] theorem pow19 : bop .Pow (.int 10) (.int 19) = some (.int (10 ^ 19), false) := bop_pow 10 19 (by decide) (by decide)
@[simp] theorem pow25 : bop .Pow (.int 10) (.int 25) = some (.int (10 ^ 25), false) := bop_pow 10 25 (by decide) (by decide)
@[simp] theorem pow28 : bop .Pow (.int 10) (.int 28) = some (.int (10 ^ 28), false) := bop_pow 10 28 (by decide) (by decide)
@[simp] theorem pow18 : bop .Pow (.int 10) (.int 18) = some (.int (10 ^ 18), false) := bop_pow 10 18 (by decide) (by decide)
@[simp] theorem pow29 : bop .Pow (.int 10) (.int 29) = some (.int (10 ^ 29), false) := bop_pow 10 29 (by decide) (by decide)
@[simp] theorem pow31 : bop .Pow (.int 10) (.int 31) = some (.int (10 ^ 31), false) := bop_pow 10 31 (by decide) (by decide)
@[simp] theorem pow33 : bop .Pow (.int 10) (.int 33) = some (.int (10 ^ 33), false) := bop_pow 10 33 (by decide) (by decide)
abbrev S_law_draw (P : Pr) := ∀ (j : Nat) (n : Nat) (m : Mu) (B k : Nat), WellAt m j B → 0 < n → n ≤ 1000000 → B ≤ 1000000 → 1 ≤ k →
  ∃ (v : Nat) (o : Ob), v < n ∧ callN P k "_law_draw" [.loc j, .val (.int n)] m = some (.ok (.val (.int v)) false (m.set j o)) ∧ WellAt (m.set j o) j (B + 1)
theorem set_at {α : Type} {m : List α} {j : Nat} {o p : α} (h : m[j]? = some o) : (m.set j p)[j]? = some p := by
  have : j < m.length := by
    rcases Nat.lt_or_ge j m.length with h1 | h1
    · exact h1
    · rw [List.getElem?_eq_none h1] at h; cases h
  simp [this]
theorem t_law_draw (fd__law_draw : P.fd "_law_draw" = some f__law_draw) : S_law_draw P := by
  intro j n m B k hw h1 h2 hB hk
  obtain ⟨k, rfl, hj⟩ := at_succ hk
  rw [callN_at fd__law_draw _ _ _ rfl]
  obtain ⟨a, b, c, e, ha, hb, hb2, hc, hcB⟩ := hw
  have ht : ∀ o : Ob, (m.set j o).take m.length = m.set j o := fun o => List.take_of_length_le (by simp)
  have hs : ∀ o : Ob, (m.set j o)[j]? = some o := fun o => set_at e
  have hn : (0 : Int) < (n : Int) := by omega
  have hn2 : (n : Int) ≤ 1000000000000000 := by omega
  by_cases h0 : 0 < a
  · refine ⟨(a % n).toNat, wl (a / n) b c, ?_, ?_, ?_⟩
    · have := Int.emod_lt_of_pos a hn
      have := Int.emod_nonneg a (show (n : Int) ≠ 0 by omega)
      omega
    · have e2 : (((a % n).toNat : Nat) : Int) = a % n := Int.toNat_of_nonneg (Int.emod_nonneg a (by omega))
      simp [f__law_draw, e, wl, idx_0, idx_1, idx_2, h0, bop_mod hn, bop_divS hn hn2, ixN, ht, hs, e2]
    · exact ⟨_, _, _, set_at e, Int.ediv_nonneg ha (by omega), hb, hb2, hc, by omega⟩
  · have ha0 : a = 0 := by omega
    subst ha0
    let M1 : Int := ((b + 31) * (c + 1 + 5) * 998244353 + (c + 1) * (c + 1) * (c + 1) * 424242427 + 77) % 100000000000000000000000000319
    let M2 : Int := (M1 * M1 + b * 7 + (c + 1)) % 10000000000000000000000000000033
    let M3 : Int := (M2 * M2 * 3 + M2 * 11) % 1000000000000000000000000000000603
    have b1 : 0 ≤ M1 := Int.emod_nonneg _ (by decide)
    have b1' : M1 < 10 ^ 40 := Int.lt_trans (Int.emod_lt_of_pos _ (by decide)) (by decide)
    have b2 : 0 ≤ M2 := Int.emod_nonneg _ (by decide)
    have b2' : M2 < 10 ^ 40 := Int.lt_trans (Int.emod_lt_of_pos _ (by decide)) (by decide)
    have p1 := bop_mulS (i := b + 31) (j := c + 1 + 5) (by omega)
    have p2 := bop_mulS (i := c + 1) (j := c + 1) (by omega)
    have p3 := bop_mulS (i := (c + 1) * (c + 1)) (j := c + 1) (by omega)
    have p4 := bop_mulB b1 b1' b1 b1'
    have p5 := bop_mulB b2 b2' b2 b2'
    have p6 : bop .Mult (.int ((b + 31) * (c + 1 + 5))) (.int 998244353) = some (.int ((b + 31) * (c + 1 + 5) * 998244353), false) := bop_mulS (by decide)
    have p7 : bop .Mult (.int ((c + 1) * (c + 1) * (c + 1))) (.int 424242427) = some (.int ((c + 1) * (c + 1) * (c + 1) * 424242427), false) := bop_mulS (by decide)
    have p8 : bop .Mult (.int b) (.int 7) = some (.int (b * 7), false) := bop_mulS (by decide)
    have p9 : bop .Mult (.int (M2 * M2)) (.int 3) = some (.int (M2 * M2 * 3), false) := bop_mulS (by decide)
    have p10 : bop .Mult (.int M2) (.int 11) = some (.int (M2 * 11), false) := bop_mulS (by decide)
    have d1 : bop .Mod (.int ((b + 31) * (c + 1 + 5) * 998244353 + (c + 1) * (c + 1) * (c + 1) * 424242427 + 77)) (.int 100000000000000000000000000319) = some (.int M1, false) := bop_mod (by decide)
    have d2 : bop .Mod (.int (M1 * M1 + b * 7 + (c + 1))) (.int 10000000000000000000000000000033) = some (.int M2, false) := bop_mod (by decide)
    have d3 : bop .Mod (.int (M2 * M2 * 3 + M2 * 11)) (.int 1000000000000000000000000000000603) = some (.int M3, false) := bop_mod (by decide)
    have d4 : bop .FloorDiv (.int M3) (.int 50021) = some (.int (M3 / 50021), false) := bop_divS (by decide) (by decide)
    have d5 := bop_mod (i := M3 / 50021) hn
    clear_value M1 M2 M3
    refine ⟨((M3 / 50021) % n).toNat, wl 0 b (c + 1), ?_, ?_, ?_⟩
    · have := Int.emod_lt_of_pos (M3 / 50021) hn
      have := Int.emod_nonneg (M3 / 50021) (show (n : Int) ≠ 0 by omega)
      omega
    · have e2 : (((M3 / 50021 % n).toNat : Nat) : Int) = M3 / 50021 % n := Int.toNat_of_nonneg (Int.emod_nonneg _ (by omega))
      simp [f__law_draw, e, wl, idx_0, idx_1, idx_2, ixN, ht, hs, p1, p2, p3, p4, p5, p6, p7, p8, p9, p10, d1, d2, d3, d4, d5, e2]
    · exact ⟨_, _, _, set_at e, by omega, hb, hb2, by omega, by omega⟩
/-- what a script's cell gives to draw from; the numbers differ from law to law -/
def lw (c1 c2 c3 c4 c5 : Int) : Fd := ⟨["script", "k"], 6, [(.set 2 (.ife (.cmp .Lt (.var 1) (.blt .len [(.var 0)])) (.blt .int [(.idx (.var 0) (.var 1))]) (.bin .Add (.bin .Mult (.con (.int c1)) (.var 1)) (.con (.int c2))))), (.set 3 (.bin .Add (.con (.int c3)) (.blt .len [(.var 0)]))), (.for (.one 4) (.var 0) [(.set 3 (.bin .Mod (.blt .int [(.bin .Add (.bin .Mult (.var 3) (.con (.int 5323))) (.bin .Mod (.blt .int [(.var 4)]) (.bin .Add (.bin .Pow (.con (.int 10)) (.con (.int 19))) (.con (.int 51)))))]) (.bin .Add (.bin .Pow (.con (.int 10)) (.con (.int 25))) (.con (.int 13)))))]), (.set 5 (.bin .Mod (.blt .int [(.bin .Add (.bin .Add (.bin .Add (.bin .Mult (.blt .abs [(.var 2)]) (.con (.int c4))) (.bin .Mult (.var 3) (.con (.int c5)))) (.bin .Mult (.con (.int 3)) (.blt .int [(.cmp .Lt (.var 2) (.con (.int 0)))]))) (.bin .Mult (.con (.int 61)) (.var 1)))]) (.bin .Add (.bin .Pow (.con (.int 10)) (.con (.int 28))) (.con (.int 331))))), (.ret (.lst [(.blt .max [(.con (.int 0)), (.bin .Sub (.blt .abs [(.var 2)]) (.bin .Pow (.con (.int 10)) (.con (.int 18))))]), (.var 5), (.con (.int 0))]))]⟩
abbrev S_law_well (P : Pr) := ∀ (ns : List Int) (i : Nat) (k : Nat) (m : Mu), ns.length ≤ 63 → i ≤ 100 → 1 ≤ k →
  ∃ a b : Int, 0 ≤ a ∧ 0 ≤ b ∧ b ≤ 10 ^ 29 ∧ callN P k "_law_well" [.val (.lst (ns.map D.int)), .val (.int i)] m = some (.ok (.val (.lst [.int a, .int b, .int 0])) true m)
theorem t_law_well (c1 c2 c3 c4 c5 : Int) (fd__law_well : P.fd "_law_well" = some (lw c1 c2 c3 c4 c5)) (g4 : c4.natAbs < 2 ^ 64) (g5 : c5.natAbs < 2 ^ 64) : S_law_well P := by
  intro ns i k m h1 h2 hk
  obtain ⟨k, rfl, hj⟩ := at_succ hk
  rw [callN_at fd__law_well _ _ _ rfl]
  -- the cell
  have hcell : ∃ x : Int, ev ⟨P.g, callN P k⟩ (.ife (.cmp .Lt (.var 1) (.blt .len [(.var 0)])) (.blt .int [(.idx (.var 0) (.var 1))]) (.bin .Add (.bin .Mult (.con (.int c1)) (.var 1)) (.con (.int c2)))) [some (.val (.lst (ns.map D.int))), some (.val (.int i)), none, none, none, none] m = some (.ok (.val (.int x)) false m) := by
    by_cases h : i < ns.length
    · refine ⟨ns[i], ?_⟩
      have h3 : (i : Int) < ns.length := by omega
      simp [h3, idxD, atD, ixN, h]
    · refine ⟨c1 * i + c2, ?_⟩
      have h3 : ¬ (i : Int) < ns.length := by omega
      have p1 : bop .Mult (.int c1) (.int i) = some (.int (c1 * i), false) := bop_mulS (by omega)
      simp [h3, p1]
  obtain ⟨x, hx⟩ := hcell
  have bd : ∀ y : Int, 0 ≤ y % 10000000000000000000000013 ∧ y % 10000000000000000000000013 < 10 ^ 26 := fun y => ⟨Int.emod_nonneg _ (by decide), Int.lt_trans (Int.emod_lt_of_pos _ (by decide)) (by decide)⟩
  have m1 : ∀ y : Int, bop .Mult (.int y) (.int 5323) = some (.int (y * 5323), false) := fun y => bop_mulS (by decide)
  have m2 : ∀ y : Int, bop .Mod (.int y) (.int 10000000000000000051) = some (.int (y % 10000000000000000051), false) := fun y => bop_mod (by decide)
  have m3 : ∀ y : Int, bop .Mod (.int y) (.int 10000000000000000000000013) = some (.int (y % 10000000000000000000000013), false) := fun y => bop_mod (by decide)
  have m4 : ∀ y : Int, bop .Mult (.int y) (.int c4) = some (.int (y * c4), false) := fun y => bop_mulS g4
  have m5 : ∀ y : Int, bop .Mult (.int y) (.int c5) = some (.int (y * c5), false) := fun y => bop_mulS g5
  have m6 : bop .Mult (.int 61) (.int i) = some (.int (61 * i), false) := bop_mulS (by omega)
  have m7 : bop .Mult (.int 3) (.int (if x < 0 then 1 else 0)) = some (.int (3 * (if x < 0 then 1 else 0)), false) := bop_mulS (by split <;> decide)
  have m8 : ∀ y : Int, bop .Mod (.int y) (.int 10000000000000000000000000331) = some (.int (y % 10000000000000000000000000331), false) := fun y => bop_mod (by decide)
  have hb : ∀ y : Int, 0 ≤ y % 10000000000000000000000000331 ∧ y % 10000000000000000000000000331 ≤ 10 ^ 29 := fun y => ⟨Int.emod_nonneg _ (by decide), Int.le_of_lt (Int.lt_trans (Int.emod_lt_of_pos _ (by decide)) (by decide))⟩
  have hw : ∀ y : Int, ∃ (z : Int) (u : Option T), forE ⟨P.g, callN P k⟩ m.length (.one 4) [(.set 3 (.bin .Mod (.blt .int [(.bin .Add (.bin .Mult (.var 3) (.con (.int 5323))) (.bin .Mod (.blt .int [(.var 4)]) (.bin .Add (.bin .Pow (.con (.int 10)) (.con (.int 19))) (.con (.int 51)))))]) (.bin .Add (.bin .Pow (.con (.int 10)) (.con (.int 25))) (.con (.int 13)))))] none (ns.map D.int) [some (.val (.lst (ns.map D.int))), some (.val (.int i)), some (.val (.int x)), some (.val (.int y)), none, none] m = some (.nx [some (.val (.lst (ns.map D.int))), some (.val (.int i)), some (.val (.int x)), some (.val (.int z)), u, none] m) := by
    intro y
    refine forE_inv (φ := D.int) (Q := fun xx => ∃ (z : Int) (u : Option T), xx = some (RS.nx [some (.val (.lst (ns.map D.int))), some (.val (.int i)), some (.val (.int x)), some (.val (.int z)), u, none] m)) (fun rem r m' => m' = m ∧ ∃ (z : Int) (u : Option T), r = [some (.val (.lst (ns.map D.int))), some (.val (.int i)), some (.val (.int x)), some (.val (.int z)), u, none]) ?_ ?_ _ _ _ ⟨rfl, y, none, rfl⟩
    · rintro d l r m' ⟨rfl, z, u, rfl⟩
      refine ⟨_, rfl, ?_⟩
      simp [m1, m2, m3]
    · rintro r m' ⟨rfl, z, u, rfl⟩
      exact ⟨z, u, rfl⟩
  obtain ⟨z, u, hz⟩ := hw (c3 + ns.length)
  refine ⟨if 0 < (if x < 0 then -x else x) - 10 ^ 18 then (if x < 0 then -x else x) - 10 ^ 18 else 0, ((if x < 0 then -x else x) * c4 + z * c5 + 3 * (if x < 0 then 1 else 0) + 61 * i) % 10000000000000000000000000331, by split <;> omega, (hb _).1, (hb _).2, ?_⟩
  rw [lw]
  simp only []
  rw [execs_cons, exec_set]
  simp only [List.map_cons, List.map_nil, List.length_cons, List.length_nil, Nat.reduceAdd, Nat.reduceSub, List.replicate, List.cons_append, List.nil_append]
  rw [hx]
  simp [hz, m4, m5, m6, m7, m8]
end Wk

set_option linter.all false
set_option maxRecDepth 100000
/-! Wk1 -/
namespace Wk
open PM PY Fn Ma
open PySem (Str)
variable {P : Pr}
def isI : D → Bool | .int _ => true | _ => false
abbrev S_is_integer (P : Pr) := ∀ (d : D) (k : Nat) (m : Mu), d.plain = true → 1 ≤ k → callN P k "is_integer" [.val d] m = some (.ok (.val (.bl (isI d))) false m)
theorem t_is_integer (fd_is_integer : P.fd "is_integer" = some f_is_integer) : S_is_integer P := by
  intro d k m h hk
  obtain ⟨k, rfl, hj⟩ := at_succ hk
  rw [callN_at fd_is_integer _ _ _ rfl]
  cases d <;> simp [f_is_integer, isiD, tyD, tyOk, D.plain, isI] at h ⊢
def btw (d : D) (a b : Int) : Bool := match d with | .int i => decide (a ≤ i) && decide (i ≤ b) | _ => false
abbrev S_is_between (P : Pr) := ∀ (d : D) (a b : Int) (k : Nat) (m : Mu), d.plain = true → 2 ≤ k → callN P k "is_between" [.val d, .val (.int a), .val (.int b)] m = some (.ok (.val (.bl (btw d a b))) false m)
theorem t_is_between (fd_is_between : P.fd "is_between" = some f_is_between) (s_is_integer : S_is_integer P) : S_is_between P := by
  intro d a b k m h hk
  obtain ⟨k, rfl, hj⟩ := at_succ hk
  rw [callN_at fd_is_between _ _ _ rfl]
  simp [f_is_between, btw, pick, s_is_integer d k m h hj]
  cases d <;> simp [isI]
  rename_i i
  by_cases h1 : a ≤ i <;> simp [h1]
/-- is_tuple(value, low, None) -/
abbrev S_is_tuple (P : Pr) := ∀ (d : D) (a : Int) (b : Option Int) (k : Nat) (m : Mu), d.plain = true → 1 ≤ k → callN P k "is_tuple" [.val d, .val (.int a), .val (match b with | some b => .int b | none => .non)] m = some (.ok (.val (.bl (match d with | .tup xs => decide (a ≤ xs.length) && (match b with | some b => decide ((xs.length : Int) ≤ b) | none => true) | _ => false))) false m)
theorem t_is_tuple (fd_is_tuple : P.fd "is_tuple" = some f_is_tuple) : S_is_tuple P := by
  intro d a b k m h hk
  obtain ⟨k, rfl, hj⟩ := at_succ hk
  rw [callN_at fd_is_tuple _ _ _ rfl]
  cases d <;> simp [f_is_tuple, isiD, tyD, tyOk, D.plain, rds, blt] at h ⊢
  rename_i xs
  by_cases h1 : a ≤ xs.length <;> cases b <;> simp [h1]
abbrev S_need_number (P : Pr) := ∀ (n a b : Int) (k : Nat) (m : Mu), a ≤ n → n ≤ b → 1 ≤ k → callN P k "need_number" [.val (.int n), .val (.int a), .val (.int b)] m = some (.ok (.val .non) false m)
theorem t_need_number (fd_need_number : P.fd "need_number" = some f_need_number) : S_need_number P := by
  intro n a b k m h1 h2 hk
  obtain ⟨k, rfl, hj⟩ := at_succ hk
  rw [callN_at fd_need_number _ _ _ rfl]
  have e1 : ¬ n < a := by omega
  have e2 : ¬ b < n := by omega
  simp [f_need_number, e1, e2]
abbrev S_number_in (P : Pr) := ∀ (n : Nat) (k : Nat) (m : Mu), n ≤ 1000 → 1 ≤ k → callN P k "number_in" [.val (.int n)] m = some (.ok (.val (.tup (List.replicate n (.tup [])))) false m)
theorem t_number_in (fd_number_in : P.fd "number_in" = some f_number_in) (gl_ZERO : P.glob "ZERO" = some (.tup [])) : S_number_in P := by
  intro n k m h hk
  obtain ⟨k, rfl, hj⟩ := at_succ hk
  rw [callN_at fd_number_in _ _ _ rfl]
  have e := bop_rep (x := .tup []) (n := n) (by omega) (by omega)
  simp [f_number_in, Pr.g, gl_ZERO, tks, tk, line, e]

theorem okCmp_dT (a b : Tr) (h : ht a ≤ 63 ∨ ht b ≤ 63) : okCmp (dT a) (dT b) = true := by
  simp only [okCmp, D.plain, plain_dTs, D.depth, depth_dTs, Bool.true_and, decide_eq_true_eq]; omega
theorem cop_eq_dT (a b : Tr) (h : ht a ≤ 63 ∨ ht b ≤ 63) : cop .Eq (dT a) (dT b) = some (decide (a = b)) := by
  simp only [cop, okCmp_dT a b h, if_true, eq_dT]
theorem cop_ne_dT (a b : Tr) (h : ht a ≤ 63 ∨ ht b ≤ 63) : cop .NotEq (dT a) (dT b) = some (!decide (a = b)) := by
  simp only [cop, okCmp_dT a b h, if_true, eq_dT]
theorem cop_ge_dT (a b : Tr) (h : ht a ≤ 63 ∨ ht b ≤ 63) : cop .GtE (dT a) (dT b) = some (Tr.le b a) := by
  simp only [cop, okCmp_dT a b h, if_true, cmp_dT, Option.map_some, Tr.le]
  rw [← Tr.cmp_swap b a]; cases Tr.cmp b a <;> rfl
theorem cop_lt_dT (a b : Tr) (h : ht a ≤ 63 ∨ ht b ≤ 63) : cop .Lt (dT a) (dT b) = some (Tr.lt a b) := by
  simp only [cop, okCmp_dT a b h, if_true, cmp_dT, Option.map_some, Tr.lt]
/-- an ordinal that is told by the list of its exponents -/
theorem dL_dT (l : List Tr) : dL l = dT (Tr.ofL l) := (dT_ofL l).symm
theorem ht_one (x : Tr) : ht (Tr.ofL [x]) = ht x + 1 := by simp [Tr.ofL, ht]
theorem idx_head (x : D) (xs : List D) : idxD (.tup (x :: xs)) (.int 0) = some x := by
  simp [idxD, atD, ixN]
@[simp] theorem idx_dL (x : Tr) (l : List Tr) : idxD (dL (x :: l)) (.int 0) = some (dT x) := idx_head _ _
theorem cop_eq_nil (l : List Tr) : cop .Eq (dL l) (.tup []) = some (decide (l = [])) := by
  have := cop_eq_dT (Tr.ofL l) .nil (.inr (by simp [ht]))
  rw [dT_ofL] at this
  rw [show (D.tup [] : D) = dT .nil from rfl, this]
  cases l <;> simp [Tr.ofL]
abbrev S_plus_in (P : Pr) := ∀ (a b : List Tr) (k : Nat) (m : Mu), ht (Tr.ofL b) ≤ 60 → a.length + b.length ≤ line → 1 ≤ k → callN P k "plus_in" [.val (dL a), .val (dL b)] m = some (.ok (.val (dL (plus a b))) false m)
theorem t_plus_in (fd_plus_in : P.fd "plus_in" = some f_plus_in) (gl_ZERO : P.glob "ZERO" = some (.tup [])) : S_plus_in P := by
  intro a b k m h1 h2 hk
  obtain ⟨k, rfl, hj⟩ := at_succ hk
  rw [callN_at fd_plus_in _ _ _ rfl]
  simp [f_plus_in, Pr.g, gl_ZERO, cop_eq_nil]
  cases b with
  | nil => simp [plus]
  | cons y b =>
    have hy : ht y ≤ 63 := by have := ht_kid (a := Tr.ofL (y :: b)) (x := y) (by simp); omega
    simp
    rw [cmpE_if (φ := dT) (ψ := dT) (p := fun x => Tr.le y x)]
    · simp [rds, blt, plus]
      rw [bop_cat]
      · simp
      · have := List.length_filter_le (fun x => Tr.le y x) a
        simp at *; omega
    · intro x hx
      simp [wipeR, idx_dL, cop_ge_dT x y (.inr hy)]
    · intro x hx _; simp [wipeR]
    · simp at *; omega
end Wk

set_option linter.all false
set_option maxRecDepth 100000
/-! Wk2 -/
namespace Wk
open PM PY Fn Ma
open PySem (Str)
variable {P : Pr}
mutual
def toTr : D → Option Tr
  | .tup xs => toTrs xs
  | _ => none
def toTrs : List D → Option Tr
  | [] => some .nil
  | x :: xs => (toTr x).bind fun h => (toTrs xs).map (Tr.cons h)
end
theorem toTrs_dTs : ∀ t : Tr, toTrs (dTs t) = some t
  | .nil => rfl
  | .cons h t => by
    have h1 : toTrs (dTs h) = some h := toTrs_dTs h
    simp [dTs, toTrs, toTr, h1, toTrs_dTs t]
theorem toTr_dT (t : Tr) : toTr (dT t) = some t := toTrs_dTs t
mutual
theorem toTr_eq : ∀ (d : D) (t : Tr), toTr d = some t → d = dT t
  | .tup xs, t, h => by rw [toTr] at h; rw [dT, toTrs_eq xs t h]
  | .non, t, h => by simp [toTr] at h
  | .bl _, t, h => by simp [toTr] at h
  | .int _, t, h => by simp [toTr] at h
  | .str _, t, h => by simp [toTr] at h
  | .lst _, t, h => by simp [toTr] at h
  | .dic _ _, t, h => by simp [toTr] at h
  | .st _, t, h => by simp [toTr] at h
  | .exc _ _, t, h => by simp [toTr] at h
  | .fn _, t, h => by simp [toTr] at h
theorem toTrs_eq : ∀ (xs : List D) (t : Tr), toTrs xs = some t → xs = dTs t
  | [], t, h => by rw [toTrs] at h; cases h; rfl
  | x :: xs, t, h => by
    rw [toTrs] at h
    cases e : toTr x with
    | none => rw [e] at h; cases h
    | some a =>
      cases e2 : toTrs xs with
      | none => rw [e, e2] at h; cases h
      | some b =>
        rw [e, e2] at h
        cases h
        rw [dTs, ← toTrs_eq xs b e2]
        have := toTr_eq x a e
        rw [this]
end
/-- no exponent is greater than the one ahead of it -/
def nfB : Tr → Bool
  | .nil => true
  | .cons h t => nfB h && nfB t && (match t with | .nil => true | .cons h' _ => Tr.le h' h)
theorem nfB_iff : ∀ {t : Tr}, nfB t = true ↔ nf t
  | .nil => by simp [nfB, nf]
  | .cons h t => by
    have h1 := nfB_iff (t := h)
    have h2 := nfB_iff (t := t)
    cases t <;> simp_all [nfB, nf, and_assoc]
/-- how many tuples stand in an ordinal; 0 for what is none -/
def cnt (d : D) : Nat := match toTr d with | some t => if nfB t then nodes t else 0 | none => 0
theorem nodes_pos (t : Tr) : 0 < nodes t := by induction t with | nil => decide | cons h t _ ih => simp only [nodes]; omega
theorem cnt_dT (t : Tr) : cnt (dT t) = if nfB t then nodes t else 0 := by simp [cnt, toTr_dT]
theorem cnt_nf {t : Tr} (h : nf t) : cnt (dT t) = nodes t := by rw [cnt_dT, if_pos (nfB_iff.2 h)]
theorem cnt_pos {d : D} (h : cnt d ≠ 0) : ∃ t, d = dT t ∧ nf t ∧ cnt d = nodes t := by
  unfold cnt at h ⊢
  cases e : toTr d with
  | none => rw [e] at h; exact absurd rfl h
  | some t =>
    rw [e] at h
    simp only at h ⊢
    by_cases g : nfB t = true
    · exact ⟨t, toTr_eq d t e, nfB_iff.1 g, by rw [if_pos g]⟩
    · rw [if_neg g] at h; exact absurd rfl h
def adj (l : List Tr) : Bool := (l.zip (l.drop 1)).all fun p => Tr.le p.2 p.1
theorem nfB_adj : ∀ l : List Tr, nfB (Tr.ofL l) = (l.all nfB && adj l)
  | [] => rfl
  | [x] => by simp [Tr.ofL, nfB, adj]
  | x :: y :: l => by
    have h := nfB_adj (y :: l)
    simp only [Tr.ofL] at h
    simp only [Tr.ofL, nfB, List.all_cons] at h ⊢
    rw [h]
    simp [adj]
    cases nfB x <;> cases nfB y <;> cases l.all nfB <;> simp [Bool.and_comm]
theorem cnt_tup (xs : List D) : cnt (.tup xs) = if (xs.all fun d => cnt d != 0) = true then (if (xs.zip (xs.drop 1)).all (fun p => match toTr p.1, toTr p.2 with | some a, some b => Tr.le b a | _, _ => false) = true then 1 + (xs.map cnt).sum else 0) else 0 := by
  by_cases h : (xs.all fun d => cnt d != 0) = true
  · rw [if_pos h]
    have hx : ∃ l : List Tr, xs = l.map dT ∧ (∀ t ∈ l, nf t) ∧ (xs.map cnt).sum = sumN l := by
      induction xs with
      | nil => exact ⟨[], rfl, by simp, rfl⟩
      | cons x xs ih =>
        simp only [List.all_cons, Bool.and_eq_true, bne_iff_ne] at h
        obtain ⟨l, e1, e2, e3⟩ := ih h.2
        obtain ⟨t, e4, e5, e6⟩ := cnt_pos h.1
        exact ⟨t :: l, by rw [e4, e1]; rfl, by simp; exact ⟨e5, e2⟩, by simp [e3, e6, sumN]⟩
    obtain ⟨l, rfl, hn, hs⟩ := hx
    rw [hs]
    have e : (D.tup (l.map dT)) = dT (Tr.ofL l) := (dT_ofL l).symm
    rw [e, cnt_dT, nfB_adj, nodes_ofL]
    have e1 : l.all nfB = true := List.all_eq_true.2 fun t ht => nfB_iff.2 (hn t ht)
    rw [e1, Bool.true_and]
    have e2 : ((l.map dT).zip ((l.map dT).drop 1)).all (fun p => match toTr p.1, toTr p.2 with | some a, some b => Tr.le b a | _, _ => false) = adj l := by
      rw [← List.map_drop, List.zip_map, List.all_map, adj]
      congr 1; funext p
      simp [toTr_dT]
    rw [e2]
  · rw [if_neg h]
    simp only [List.all_eq_true, bne_iff_ne, Classical.not_forall, Classical.not_not] at h
    obtain ⟨d, hd, h0⟩ := h
    unfold cnt
    cases e : toTr (.tup xs) with
    | none => rfl
    | some t =>
      simp only
      have e1 := toTr_eq _ _ e
      injection e1 with e1
      rw [dTs_kids] at e1
      subst e1
      obtain ⟨x, hx, rfl⟩ := List.mem_map.1 hd
      by_cases g : nfB t = true
      · have := (nf_cons_desc (nfB_iff.1 g)).2 x hx
        rw [cnt_nf this] at h0
        have := nodes_pos x
        omega
      · rw [if_neg g]
mutual
/-- how many objects stand in one -/
def szD : D → Nat
  | .tup xs => 1 + szDs xs
  | .lst xs => 1 + szDs xs
  | _ => 1
def szDs : List D → Nat
  | [] => 0
  | x :: xs => szD x + szDs xs
end
theorem sz_dTs (t : Tr) : 1 + szDs (dTs t) = nodes t := by
  induction t with
  | nil => rfl
  | cons h t ih1 ih2 => simp only [dTs, szDs, szD, nodes] at *; omega
theorem sz_dT (t : Tr) : szD (dT t) = nodes t := by rw [dT, szD, sz_dTs]
theorem sz_mem {xs : List D} {x : D} (h : x ∈ xs) : szD x ≤ szDs xs := by
  induction xs with
  | nil => cases h
  | cons y ys ih =>
    rw [szDs]
    rcases List.mem_cons.1 h with rfl | h
    · omega
    · have := ih h; omega
theorem sz_pos (d : D) : 0 < szD d := by cases d <;> simp [szD] <;> omega
theorem len_sz (xs : List D) : xs.length ≤ szDs xs := by
  induction xs with
  | nil => simp
  | cons y ys ih => simp only [szDs, List.length_cons]; have := sz_pos y; omega
abbrev S_counted (P : Pr) := ∀ (n : Nat) (d : D) (k : Nat) (m : Mu), d.plain = true → d.depth ≤ n → szD d ≤ line → n ≤ 60 → n + 1 ≤ k → callN P k "counted" [.val d] m = some (.ok (.val (.int (cnt d))) false m)
theorem depth_mem {xs : List D} {x : D} (h : x ∈ xs) : x.depth ≤ depths xs := by
  induction xs with
  | nil => cases h
  | cons y ys ih =>
    rw [depths]
    rcases List.mem_cons.1 h with rfl | h
    · omega
    · have := ih h; omega
theorem plain_mem {xs : List D} {x : D} (h : x ∈ xs) (g : plains xs = true) : x.plain = true := by
  induction xs with
  | nil => cases h
  | cons y ys ih =>
    rw [plains, Bool.and_eq_true] at g
    rcases List.mem_cons.1 h with rfl | h
    · exact g.1
    · exact ih h g.2
theorem t_counted (fd_counted : P.fd "counted" = some f_counted) : S_counted P := by
  intro n
  induction n with
  | zero =>
    intro d k m h1 h2 hz h3 hk
    obtain ⟨k, rfl, hj⟩ := at_succ hk
    rw [callN_at fd_counted _ _ _ rfl]
    cases d <;> simp [f_counted, isiD, tyD, tyOk, D.plain, D.depth, cnt, toTr] at h1 h2 ⊢
  | succ n ih =>
    intro d k m h1 h2 hz h3 hk
    obtain ⟨k, rfl, hj⟩ := at_succ hk
    rw [callN_at fd_counted _ _ _ rfl]
    by_cases ht : ∃ xs, d = .tup xs
    · obtain ⟨xs, rfl⟩ := ht
      rw [D.plain] at h1
      rw [D.depth] at h2
      have ihx : ∀ x ∈ xs, callN P k "counted" [.val x] m = some (.ok (.val (.int (cnt x))) false m) := fun x hx => ih x k m (plain_mem hx h1) (by have := depth_mem hx; omega) (by have := sz_mem hx; rw [szD] at hz; omega) (by omega) (by omega)
      simp [f_counted, isiD, tyD, tyOk]
      refine forE_invD (Q := fun x => fin _ (seqS x _) = _) (fun rem r m' => m' = m ∧ ∃ pre x2 x3, pre ++ rem = xs ∧ (pre.all fun d => cnt d != 0) = true ∧ r = [some (.val (.tup xs)), some (.val (.int (1 + ((pre.map cnt).sum : Nat)))), x2, x3, none, none]) ?_ ?_ xs _ _ ⟨rfl, [], none, none, rfl, rfl, rfl⟩
      · rintro x l r m' ⟨rfl, pre, x2, x3, e1, e2, rfl⟩
        have hx := ihx x (by rw [← e1]; simp)
        refine ⟨_, rfl, ?_⟩
        simp [hx]
        by_cases h0 : cnt x = 0
        · have hc : cnt (.tup xs) = 0 := by
            rw [cnt_tup, if_neg]
            rw [← e1]; simp [h0]
          simp [h0, hc]
        · simp [h0]
          refine ⟨pre ++ [x], by simpa using e1, ?_, by simp; omega⟩
          simp only [List.all_eq_true, bne_iff_ne] at e2
          intro y hy
          rcases List.mem_append.1 hy with hy | hy
          · exact e2 y hy
          · rw [List.mem_singleton.1 hy]; exact h0
      · rintro r m' ⟨rfl, pre, x2, x3, e1, e2, rfl⟩
        rw [List.append_nil] at e1
        subst e1
        have hl : ∃ l : List Tr, pre = l.map dT := by
          clear h2 h1 ihx hz
          induction pre with
          | nil => exact ⟨[], rfl⟩
          | cons x pre ih2 =>
            simp only [List.all_cons, Bool.and_eq_true, bne_iff_ne] at e2
            obtain ⟨l, hl⟩ := ih2 e2.2
            obtain ⟨t, e4, _⟩ := cnt_pos e2.1
            exact ⟨t :: l, by rw [e4, hl]; rfl⟩
        obtain ⟨l, rfl⟩ := hl
        have e3 : (List.map dT l).drop 1 = (l.drop 1).map dT := by simp
        simp
        rw [← List.map_tail, zipD_map, cmpE_map2 (φ1 := fun p : Tr × Tr => dT p.1) (φ2 := fun p => dT p.2) (ψ := fun p => .bl (Tr.le p.2 p.1))]
        · simp only [outC_ok, consL_ok, bnqL_ok, rds_val, rds_nil, Option.map_some, obq_some, all_lst, giv_some, bnq_ok, rd_val, truth_bl, putL_ok]
          have e5 : cnt (.tup (l.map dT)) = if adj l = true then 1 + (l.map (cnt ∘ dT)).sum else 0 := by
            rw [cnt_tup, if_pos e2, List.map_map]
            have : ((l.map dT).zip ((l.map dT).drop 1)).all (fun p => match toTr p.1, toTr p.2 with | some a, some b => Tr.le b a | _, _ => false) = adj l := by
              rw [← List.map_drop, List.zip_map, List.all_map, adj]
              congr 1; funext p
              simp [toTr_dT]
            rw [this]
          rw [e5]
          cases hadj : adj l with
          | true =>
            have hd2 : ((l.zip l.tail).all fun p => Tr.le p.2 p.1) = true := by simpa [adj] using hadj
            simp -implicitDefEqProofs [all_lst, hd2]
          | false =>
            have hd2 : ((l.zip l.tail).all fun p => Tr.le p.2 p.1) = false := by simpa [adj] using hadj
            simp -implicitDefEqProofs [all_lst, hd2]
        · intro x hx
          have hh : ht x.1 ≤ 63 := by
            have := (List.of_mem_zip hx).1
            have := depth_mem (List.mem_map_of_mem (f := dT) this)
            simp only [D.depth, depth_dTs] at this
            omega
          simp [cop_ge_dT _ _ (.inl hh)]
        · have := len_sz (l.map dT); rw [szD] at hz; simp at this ⊢; omega
    · have hc : cnt d = 0 := by
        cases d <;> simp [cnt, toTr] at ht ⊢
      rw [hc]
      cases d <;> simp [f_counted, isiD, tyD, tyOk, D.plain] at ht h1 ⊢
end Wk

set_option linter.all false
set_option maxRecDepth 100000
/-! Wk3 -/
namespace Wk
open PM PY Fn Ma
open PySem (Str)
variable {P : Pr}
abbrev dI (l : List Int) : D := .tup (l.map D.int)
theorem dW_dI (w : List Nat) : dW w = dI (w.map fun (n : Nat) => (n : Int)) := by simp [Function.comp_def]
abbrev S_is_ordinal_in (P : Pr) := ∀ (d : D) (k : Nat) (m : Mu), d.plain = true → d.depth ≤ 60 → szD d ≤ line → 62 ≤ k → callN P k "is_ordinal_in" [.val d] m = some (.ok (.val (.bl (decide (0 < cnt d) && decide (cnt d ≤ 400)))) false m)
theorem t_is_ordinal_in (fd_is_ordinal_in : P.fd "is_ordinal_in" = some f_is_ordinal_in) (s_counted : S_counted P) (gl_MOST : P.glob "MOST" = some (.int 400)) : S_is_ordinal_in P := by
  intro d k m h1 h2 h3 hk
  obtain ⟨k, rfl, hj⟩ := at_succ hk
  rw [callN_at fd_is_ordinal_in _ _ _ rfl]
  have e := s_counted 60 d k m h1 h2 h3 (by omega) hj
  by_cases h : 0 < cnt d
  · simp -implicitDefEqProofs [f_is_ordinal_in, e, Pr.g, gl_MOST, h]; omega
  · simp -implicitDefEqProofs [f_is_ordinal_in, e, Pr.g, gl_MOST, h]
abbrev S_need_ordinal (P : Pr) := ∀ (t : Tr) (k : Nat) (m : Mu), nf t → nodes t ≤ 400 → ht t ≤ 59 → 63 ≤ k → callN P k "need_ordinal" [.val (dT t)] m = some (.ok (.val .non) false m)
theorem t_need_ordinal (fd_need_ordinal : P.fd "need_ordinal" = some f_need_ordinal) (s_is_ordinal_in : S_is_ordinal_in P) : S_need_ordinal P := by
  intro t k m h1 h2 h3 hk
  obtain ⟨k, rfl, hj⟩ := at_succ hk
  rw [callN_at fd_need_ordinal _ _ _ rfl]
  have e := s_is_ordinal_in (dT t) k m (by rw [dT, D.plain, plain_dTs]) (by rw [dT, D.depth, depth_dTs]; omega) (by rw [sz_dT]; simp [line]; omega) hj
  rw [cnt_nf h1] at e
  have := nodes_pos t
  simp [f_need_ordinal, e, this, h2]
abbrev S_need_ordinals (P : Pr) := ∀ (a b : Tr) (k : Nat) (m : Mu), nf a → nodes a ≤ 400 → ht a ≤ 59 → nf b → nodes b ≤ 400 → ht b ≤ 59 → 64 ≤ k → callN P k "need_ordinals" [.val (dT a), .val (dT b)] m = some (.ok (.val .non) false m)
theorem t_need_ordinals (fd_need_ordinals : P.fd "need_ordinals" = some f_need_ordinals) (s_need_ordinal : S_need_ordinal P) : S_need_ordinals P := by
  intro a b k m h1 h2 h3 g1 g2 g3 hk
  obtain ⟨k, rfl, hj⟩ := at_succ hk
  rw [callN_at fd_need_ordinals _ _ _ rfl]
  simp [f_need_ordinals, s_need_ordinal a k m h1 h2 h3 hj, s_need_ordinal b k m g1 g2 g3 hj]

theorem dT_dL (t : Tr) : dT t = dL (Tr.kids t) := by rw [dT, dTs_kids]
theorem ht_kids_le {l : List Tr} {x : Tr} (h : x ∈ l) : ht x + 1 ≤ ht (Tr.ofL l) := ht_kid (by simpa using h)
theorem ht_plus {a b : List Tr} : ht (Tr.ofL (plus a b)) ≤ max (ht (Tr.ofL a)) (ht (Tr.ofL b)) := by
  apply ht_ofL
  intro x hx
  rcases plus_mem x hx with h | h
  · have := ht_kids_le h; omega
  · have := ht_kids_le h; omega
theorem len_plus (a b : List Tr) : (plus a b).length ≤ a.length + b.length := by
  cases b with
  | nil => simp [plus]
  | cons y b => rw [plus, List.length_append]; have := List.length_filter_le (fun x => Tr.le y x) a; omega
theorem dL_one (l : List Tr) : dL [Tr.ofL l] = .tup [dL l] := by rw [← dT_ofL l]; rfl
def timesS (a : List Tr) (f : List Tr) (g : Tr) : List Tr := plus f (if g = .nil then a else [Tr.ofL (plus (Tr.kids (a.headD .nil)) (Tr.kids g))])
def times (a b : List Tr) : List Tr := if a = [] then [] else b.foldl (timesS a) []
theorem len_timesS (a f : List Tr) (g : Tr) : (timesS a f g).length ≤ f.length + (a.length + 1) := by
  rw [timesS]
  refine Nat.le_trans (len_plus _ _) ?_
  split <;> simp
theorem foldl_snoc {α σ : Type} (f : σ → α → σ) (s : σ) (l : List α) (x : α) : (l ++ [x]).foldl f s = f (l.foldl f s) x := by simp
abbrev S_times_in (P : Pr) := ∀ (a b : List Tr) (k : Nat) (m : Mu), ht (Tr.ofL a) ≤ 58 → ht (Tr.ofL b) ≤ 58 → a.length ≤ 1000 → b.length ≤ 1000 → (∀ x ∈ a, (Tr.kids x).length ≤ 1000) → (∀ x ∈ b, (Tr.kids x).length ≤ 1000) → 2 ≤ k → callN P k "times_in" [.val (dL a), .val (dL b)] m = some (.ok (.val (dL (times a b))) false m)
theorem t_times_in (fd_times_in : P.fd "times_in" = some f_times_in) (s_plus_in : S_plus_in P) (gl_ZERO : P.glob "ZERO" = some (.tup [])) : S_times_in P := by
  intro a b k m h1 h2 h3 h4 h5 h6 hk
  obtain ⟨k, rfl, hj⟩ := at_succ hk
  rw [callN_at fd_times_in _ _ _ rfl]
  simp [f_times_in, Pr.g, gl_ZERO, cop_eq_nil]
  cases a with
  | nil => simp [times]
  | cons y a =>
    have hy : ht y ≤ 57 := by have := ht_kids_le (l := y :: a) (x := y) (by simp); omega
    simp
    refine forE_inv (φ := dT) (Q := fun x => fin _ (seqS x _) = _) (fun rem r m' => m' = m ∧ ∃ pre x3, pre ++ rem = b ∧ r = [some (.val (dL (y :: a))), some (.val (dL b)), some (.val (dL (pre.foldl (timesS (y :: a)) []))), x3] ∧ (pre.foldl (timesS (y :: a)) []).length ≤ pre.length * (a.length + 2)) ?_ ?_ b _ _ ⟨rfl, [], none, rfl, by simp, by simp⟩
    · rintro g l r m' ⟨rfl, pre, x3, e1, rfl, e2⟩
      refine ⟨_, rfl, ?_⟩
      have hg : g ∈ b := by rw [← e1]; simp
      have hgh : ht g ≤ 57 := by have := ht_kids_le hg; omega
      have hp : pre.length ≤ 1000 := by rw [← e1] at h4; simp at h4; omega
      have hb : (pre.foldl (timesS (y :: a)) []).length ≤ 1001000 := by
        refine Nat.le_trans e2 ?_
        simp at h3
        exact Nat.mul_le_mul hp (show a.length + 2 ≤ 1001 by omega)
      have e3 := len_timesS (y :: a) (pre.foldl (timesS (y :: a)) []) g
      have e4 : (pre ++ [g]).length * (a.length + 2) = pre.length * (a.length + 2) + (a.length + 2) := by simp [Nat.add_mul]
      have hn : cop .Eq (dT g) (.tup []) = some (decide (g = .nil)) := cop_eq_dT g .nil (.inl (by omega))
      have p1 := s_plus_in (Tr.kids y) (Tr.kids g) k m' (by simp; omega) (by have := h5 y (by simp); have := h6 g hg; simp [line]; omega) (by omega)
      rw [← dT_dL, ← dT_dL] at p1
      by_cases h0 : g = .nil
      · subst h0
        have p2 := s_plus_in (pre.foldl (timesS (y :: a)) []) (y :: a) k m' (by omega) (by simp [line] at h3 ⊢; omega) (by omega)
        simp [hn, p2, Pr.g, gl_ZERO]
        refine ⟨pre ++ [.nil], by simpa using e1, ?_⟩
        rw [foldl_snoc, timesS, if_pos rfl]
        simp at e3 e4 ⊢
        rw [timesS, if_pos rfl] at e3
        omega
      · have p2 := s_plus_in (pre.foldl (timesS (y :: a)) []) [Tr.ofL (plus (Tr.kids y) (Tr.kids g))] k m' (by
            rw [ht_one]
            have := ht_plus (a := Tr.kids y) (b := Tr.kids g)
            simp at this; omega) (by simp [line]; omega) (by omega)
        rw [dL_one] at p2
        simp [hn, h0, p1, p2, line, Pr.g, gl_ZERO]
        refine ⟨pre ++ [g], by simpa using e1, ?_⟩
        rw [foldl_snoc]
        have e5 : timesS (y :: a) (List.foldl (timesS (y :: a)) [] pre) g = plus (List.foldl (timesS (y :: a)) [] pre) [Tr.ofL (plus (Tr.kids y) (Tr.kids g))] := by rw [timesS, if_neg h0]; rfl
        rw [e5] at e3 ⊢
        refine ⟨rfl, ?_⟩
        rw [e4]; simp at e3; omega
    · rintro r m' ⟨rfl, pre, x3, e1, rfl, e2⟩
      rw [List.append_nil] at e1; subst e1
      simp [times]
end Wk

set_option linter.all false
set_option maxRecDepth 100000
/-! Wk4 -/
namespace Wk
open PM PY Fn Ma
open PySem (Str)
variable {P : Pr}
abbrev OrdOk (t : Tr) : Prop := nf t ∧ nodes t ≤ 400 ∧ ht t ≤ 59
abbrev S_number (P : Pr) := ∀ (n : Nat) (k : Nat) (m : Mu), n ≤ 399 → 2 ≤ k → callN P k "number" [.val (.int n)] m = some (.ok (.val (dL (List.replicate n .nil))) false m)
theorem t_number (fd_number : P.fd "number" = some f_number) (s_need_number : S_need_number P) (s_number_in : S_number_in P) (gl_MOST_NUMBER : P.glob "MOST_NUMBER" = some (.int 399)) : S_number P := by
  intro n k m h hk
  obtain ⟨k, rfl, hj⟩ := at_succ hk
  rw [callN_at fd_number _ _ _ rfl]
  have e : dL (List.replicate n .nil) = .tup (List.replicate n (.tup [])) := by rw [dL, List.map_replicate]; rfl
  simp [f_number, s_need_number n 0 399 k m (by omega) (by omega) hj, s_number_in n k m (by omega) hj, Pr.g, gl_MOST_NUMBER, e]
abbrev S_plus (P : Pr) := ∀ (a b : List Tr) (k : Nat) (m : Mu), OrdOk (Tr.ofL a) → OrdOk (Tr.ofL b) → 65 ≤ k → callN P k "plus" [.val (dL a), .val (dL b)] m = some (.ok (.val (dL (plus a b))) false m)
theorem len_nodes (l : List Tr) : l.length + 1 ≤ nodes (Tr.ofL l) := by
  induction l with
  | nil => decide
  | cons x l ih => simp only [Tr.ofL, nodes, List.length_cons]; have := nodes_pos x; omega
theorem nodes_kid {t x : Tr} (h : x ∈ Tr.kids t) : nodes x + 1 ≤ nodes t := by
  induction t with
  | nil => cases h
  | cons a b _ ih =>
    simp only [Tr.kids, List.mem_cons] at h
    simp only [nodes]
    rcases h with rfl | h
    · have := nodes_pos b; omega
    · have := ih h; have := nodes_pos a; omega
theorem len_kids {t x : Tr} (h : x ∈ Tr.kids t) : (Tr.kids x).length + 2 ≤ nodes t := by
  have := nodes_kid h
  have := len_nodes (Tr.kids x)
  simp at this; omega
theorem t_plus (fd_plus : P.fd "plus" = some f_plus) (s_need_ordinals : S_need_ordinals P) (s_plus_in : S_plus_in P) : S_plus P := by
  intro a b k m h1 h2 hk
  obtain ⟨k, rfl, hj⟩ := at_succ hk
  rw [callN_at fd_plus _ _ _ rfl]
  have e := s_need_ordinals _ _ k m h1.1 h1.2.1 h1.2.2 h2.1 h2.2.1 h2.2.2 hj
  rw [dT_ofL, dT_ofL] at e
  have := len_nodes a
  have := len_nodes b
  have e2 := s_plus_in a b k m (by omega) (by simp [line]; omega) (by omega)
  simp [f_plus, e, e2]
abbrev S_times (P : Pr) := ∀ (a b : List Tr) (k : Nat) (m : Mu), OrdOk (Tr.ofL a) → OrdOk (Tr.ofL b) → ht (Tr.ofL a) ≤ 58 → ht (Tr.ofL b) ≤ 58 → 65 ≤ k → callN P k "times" [.val (dL a), .val (dL b)] m = some (.ok (.val (dL (times a b))) false m)
theorem t_times (fd_times : P.fd "times" = some f_times) (s_need_ordinals : S_need_ordinals P) (s_times_in : S_times_in P) : S_times P := by
  intro a b k m h1 h2 h3 h4 hk
  obtain ⟨k, rfl, hj⟩ := at_succ hk
  rw [callN_at fd_times _ _ _ rfl]
  have e := s_need_ordinals _ _ k m h1.1 h1.2.1 h1.2.2 h2.1 h2.2.1 h2.2.2 hj
  rw [dT_ofL, dT_ofL] at e
  have l1 := len_nodes a
  have l2 := len_nodes b
  have e2 := s_times_in a b k m h3 h4 (by omega) (by omega) (fun x hx => by have := len_kids (t := Tr.ofL a) (x := x) (by simpa using hx); omega) (fun x hx => by have := len_kids (t := Tr.ofL b) (x := x) (by simpa using hx); omega) (by omega)
  simp [f_times, e, e2]
/-! Wk4 -/
def wormB (d : D) : Bool := match d with | .tup xs => decide (xs.length ≤ 400) && xs.all fun x => btw x 0 6 | _ => false
abbrev S_is_worm_in (P : Pr) := ∀ (d : D) (k : Nat) (m : Mu), d.plain = true → 3 ≤ k → callN P k "is_worm_in" [.val d] m = some (.ok (.val (.bl (wormB d))) false m)
theorem t_is_worm_in (fd_is_worm_in : P.fd "is_worm_in" = some f_is_worm_in) (s_is_tuple : S_is_tuple P) (s_is_between : S_is_between P) (gl_MOST_LENGTH : P.glob "MOST_LENGTH" = some (.int 400)) (gl_MOST_LETTER : P.glob "MOST_LETTER" = some (.int 6)) : S_is_worm_in P := by
  intro d k m h hk
  obtain ⟨k, rfl, hj⟩ := at_succ hk
  rw [callN_at fd_is_worm_in _ _ _ rfl]
  have e := s_is_tuple d 0 (some 400) k m h (by omega)
  simp only at e
  cases d <;> simp [f_is_worm_in, e, wormB, Pr.g, gl_MOST_LENGTH]
  rename_i xs
  by_cases hl : xs.length ≤ 400
  · have hl' : ((xs.length : Nat) : Int) ≤ 400 := by omega
    simp [hl, hl']
    have := cmpE_map (c := ⟨P.g, callN P k⟩) (elt := .call "is_between" [(.var 1), (.con (.int 0)), (.glo "MOST_LETTER")] [0, 1, 2]) (a := none) (r := [some (.val (.tup xs)), none]) (m := m) (l := xs) id (fun x => .bl (btw x 0 6)) 1 (fun x hx => by
      simp [Pr.g, gl_MOST_LETTER, s_is_between x 0 6 k m (plain_mem hx (by simpa [D.plain] using h)) hj]) (by simp [line]; omega)
    rw [List.map_id] at this
    simp only [Pr.g] at this
    simp [this, all_lst]
  · have hl' : ¬ ((xs.length : Nat) : Int) ≤ 400 := by omega
    simp [hl, hl']
abbrev S_raised_in (P : Pr) := ∀ (l : List Int) (n : Int) (k : Nat) (m : Mu), l.length ≤ line → 1 ≤ k → callN P k "raised_in" [.val (dI l), .val (.int n)] m = some (.ok (.val (dI (l.map (· + n)))) false m)
theorem t_raised_in (fd_raised_in : P.fd "raised_in" = some f_raised_in) : S_raised_in P := by
  intro l n k m h hk
  obtain ⟨k, rfl, hj⟩ := at_succ hk
  rw [callN_at fd_raised_in _ _ _ rfl]
  simp [f_raised_in]
  rw [cmpE_map (φ := D.int) (ψ := fun x => .int (x + n)) (l := l)]
  · simp [Function.comp_def]
  · intro x hx; simp
  · exact h
abbrev S_lowered_in (P : Pr) := ∀ (l : List Int) (n : Int) (k : Nat) (m : Mu), l.length ≤ line → 1 ≤ k → callN P k "lowered_in" [.val (dI l), .val (.int n)] m = some (.ok (.val (dI (l.map (· - n)))) false m)
theorem t_lowered_in (fd_lowered_in : P.fd "lowered_in" = some f_lowered_in) : S_lowered_in P := by
  intro l n k m h hk
  obtain ⟨k, rfl, hj⟩ := at_succ hk
  rw [callN_at fd_lowered_in _ _ _ rfl]
  simp [f_lowered_in]
  rw [cmpE_map (φ := D.int) (ψ := fun x => .int (x - n)) (l := l)]
  · simp [Function.comp_def]
  · intro x hx; simp
  · exact h
theorem up_int (w : List Nat) : dI ((w.map fun (n : Nat) => (n : Int)).map (· + 1)) = dW (up w) := by simp [Function.comp_def]
theorem low_int {w : List Nat} (h : ∀ x ∈ w, 0 < x) : dI ((w.map fun (n : Nat) => (n : Int)).map (· - 1)) = dW (low w) := by
  simp only [dI, dW, low, List.map_map, D.tup.injEq]
  apply List.map_congr_left
  intro x hx
  have := h x hx
  simp; omega
abbrev S_pieces_of (P : Pr) := ∀ (w : List Nat) (k : Nat) (m : Mu), w.length < line → 1 ≤ k → callN P k "pieces_of" [.val (dW w)] m = some (.ok (.val (.lst ((cut w).map dW))) true m)
theorem cutA_len (h w : List Nat) : (cutA h w).length ≤ w.length + 1 := by
  induction w generalizing h with
  | nil => simp [cutA]
  | cons a w ih =>
    cases a with
    | zero => simp only [cutA, List.length_cons]; have := ih []; omega
    | succ n => simp only [cutA, List.length_cons]; have := ih (h ++ [n + 1]); omega
theorem t_pieces_of (fd_pieces_of : P.fd "pieces_of" = some f_pieces_of) : S_pieces_of P := by
  intro w k m h hk
  obtain ⟨k, rfl, hj⟩ := at_succ hk
  rw [callN_at fd_pieces_of _ _ _ rfl]
  simp [f_pieces_of]
  refine forE_inv (φ := fun (n : Nat) => D.int n) (Q := fun x => fin _ (seqS x _) = _) (fun rem r m' => ∃ F H x3, F ++ cutA H rem = cut w ∧ r = [some (.val (dW w)), some (.loc m.length), some (.loc (m.length + 1)), x3] ∧ m' = m ++ [.lst (F.map dW), .lst (H.map fun (n : Nat) => D.int n)] ∧ H.length + rem.length ≤ w.length) ?_ ?_ w _ _ ⟨[], [], none, rfl, rfl, rfl, by simp⟩
  · rintro x l r m' ⟨F, H, x3, e1, rfl, rfl, e2⟩
    refine ⟨_, rfl, ?_⟩
    have hF : F.length ≤ w.length := by
      have h1 := congrArg List.length e1
      have h2 := cutA_len [] w
      have h3 : 1 ≤ (cutA H (x :: l)).length := by
        have := cutA_ne H (x :: l)
        cases h : cutA H (x :: l) with
        | nil => exact absurd h this
        | cons => simp
      simp only [List.length_append] at h1
      have h4 : (cut w).length = (cutA [] w).length := rfl
      omega
    have hF' : F.length < line := by omega
    have hH' : H.length < line := by omega
    by_cases h0 : x = 0
    · subst h0
      simp [hF', others]
      refine ⟨F ++ [H], [], by simpa [cutA] using e1, by simp, ?_⟩
      simp at e2 ⊢; omega
    · obtain ⟨y, rfl⟩ : ∃ y, x = y + 1 := ⟨x - 1, by omega⟩
      have e9 : ¬ ((y : Int) + 1 = 0) := by omega
      simp [hH', e9]
      refine ⟨F, H ++ [y + 1], by simpa [cutA] using e1, by simp, ?_⟩
      simp at e2 ⊢; omega
  · rintro r m' ⟨F, H, x3, e1, rfl, rfl, e2⟩
    have hF : F.length + 1 ≤ line := by
      have h1 := congrArg List.length e1
      have h2 := cutA_len [] w
      have h4 : (cut w).length = (cutA [] w).length := rfl
      simp [cutA] at h1
      omega
    rw [cutA] at e1
    simp
    rw [bop_catL (by simpa using hF), ← e1]
    simp
theorem any_int (l : List Int) : blt .any [dI l] = some (.bl (l.any (· != 0)), false) := by
  have : ∀ l : List Int, boolsOf (l.map D.int) = some (l.map (· != 0)) := by
    intro l
    induction l with
    | nil => rfl
    | cons x l ih => simp [boolsOf, ih]
  simp [blt, seqD, this, Function.comp_def]
theorem any_W (w : List Nat) : blt .any [dW w] = some (.bl (!zeros w), false) := by
  rw [dW_dI, any_int]
  congr 2
  simp [zeros, List.any_map]
  induction w with
  | nil => rfl
  | cons x w ih => simp [ih]; cases x <;> simp <;> omega
abbrev S_order_in (P : Pr) := ∀ (n : Nat) (w : List Nat) (k : Nat) (m : Mu), (∀ x ∈ w, x ≤ n) → n ≤ 50 → wt w ≤ 100000 → w.length ≤ 1000 → n + 3 ≤ k → callN P k "order_in" [.val (dW w)] m = some (.ok (.val (dL (ord w))) false m)
theorem cut_len_mem {w p : List Nat} (hp : p ∈ cut w) : p.length ≤ w.length := by
  have : ∀ (h w : List Nat), ∀ p ∈ cutA h w, p.length ≤ h.length + w.length := by
    intro h w
    induction w generalizing h with
    | nil => intro p hp; simp [cutA] at hp; subst hp; simp
    | cons a w ih =>
      intro p hp
      cases a with
      | zero =>
        rw [cutA] at hp
        rcases List.mem_cons.1 hp with rfl | hp
        · simp
        · have := ih [] p hp; simp at this ⊢; omega
      | succ k => rw [cutA] at hp; have := ih _ p hp; simp at this ⊢; omega
  simpa using this [] w p hp
theorem wt_low_cut {w p : List Nat} (hp : p ∈ cut w) : wt (low p) ≤ wt w := by
  rw [wt_low (fun x hx => (cut_mem hp x hx).2)]
  have : ∀ (h w : List Nat), ∀ p ∈ cutA h w, p.sum ≤ h.sum + wt w := by
    intro h w
    induction w generalizing h with
    | nil => intro p hp; simp [cutA] at hp; subst hp; simp
    | cons a w ih =>
      intro p hp
      have hw : wt (a :: w) = a + 1 + wt w := by simp [wt]
      cases a with
      | zero =>
        rw [cutA] at hp
        rcases List.mem_cons.1 hp with rfl | hp
        · omega
        · have := ih [] p hp; simp at this; omega
      | succ k => rw [cutA] at hp; have := ih _ p hp; simp at this; omega
  simpa using this [] w p hp
theorem t_order_in (fd_order_in : P.fd "order_in" = some f_order_in) (s_number_in : S_number_in P) (s_pieces_of : S_pieces_of P) (s_lowered_in : S_lowered_in P) (s_plus_in : S_plus_in P) (gl_ZERO : P.glob "ZERO" = some (.tup [])) : S_order_in P := by
  intro n
  induction n with
  | zero =>
    intro w k m h1 h2 h3 h4 hk
    obtain ⟨k, rfl, hj⟩ := at_succ hk
    rw [callN_at fd_order_in _ _ _ rfl]
    have hz := zeros_of h1
    have e : dL (List.replicate w.length .nil) = .tup (List.replicate w.length (.tup [])) := by rw [dL, List.map_replicate]; rfl
    have eo : ord w = List.replicate w.length .nil := by rw [ord_step, if_pos hz]
    simp [f_order_in, any_W, hz, s_number_in w.length k m h4 (by omega), eo, e]
  | succ n ih =>
    intro w k m h1 h2 h3 h4 hk
    obtain ⟨k, rfl, hj⟩ := at_succ hk
    rw [callN_at fd_order_in _ _ _ rfl]
    by_cases hz : zeros w = true
    · have e : dL (List.replicate w.length .nil) = .tup (List.replicate w.length (.tup [])) := by rw [dL, List.map_replicate]; rfl
      have eo : ord w = List.replicate w.length .nil := by rw [ord_step, if_pos hz]
      simp [f_order_in, any_W, hz, s_number_in w.length k m h4 (by omega), eo, e]
    · rw [Bool.not_eq_true] at hz
      simp [f_order_in, any_W, hz, Pr.g, gl_ZERO, s_pieces_of w k m (by simp [line]; omega) (by omega)]
      rw [← List.map_reverse]
      refine forE_inv (φ := dW) (Q := fun x => fin _ (seqS x _) = _) (fun rem r m' => m' = m ∧ ∃ pre x2, pre ++ rem = (cut w).reverse ∧ r = [some (.val (dW w)), some (.val (dL (foldP [] (pre.map fun p => Tr.ofL (ord (low p)))))), x2]) ?_ ?_ _ _ _ ⟨rfl, [], none, rfl, rfl⟩
      · rintro p l r m' ⟨rfl, pre, x2, e1, rfl⟩
        refine ⟨_, rfl, ?_⟩
        have hp : p ∈ cut w := by rw [← List.mem_reverse, ← e1]; simp
        have hpre : ∀ q ∈ pre, q ∈ cut w := fun q hq => by rw [← List.mem_reverse, ← e1]; simp [hq]
        have lw := low_le h1 hp
        have c1 := s_lowered_in (p.map fun (n : Nat) => (n : Int)) 1 k m' (by have := cut_len_mem hp; simp [line]; omega) (by omega)
        rw [low_int (fun x hx => (cut_mem hp x hx).2), ← dW_dI] at c1
        have c2 := ih (low p) k m' lw (by omega) (by have := wt_low_cut hp; omega) (by have := cut_len_mem hp; simp; omega) (by omega)
        have ho : ht (Tr.ofL (ord (low p))) ≤ n + 1 := ht_ordF n (low p) lw
        have hlen : (foldP [] (pre.map fun p => Tr.ofL (ord (low p)))).length ≤ pre.length := by
          have : ∀ (xs a : List Tr), (foldP a xs).length ≤ a.length + xs.length := by
            intro xs
            induction xs with
            | nil => intro a; simp [foldP]
            | cons x xs ih =>
              intro a
              have := ih (plus a [x])
              have := len_plus a [x]
              simp [foldP] at *; omega
          simpa using this (pre.map fun p => Tr.ofL (ord (low p))) []
        have hpl : pre.length ≤ w.length + 1 := by
          have g1 := congrArg List.length e1
          have g2 := cutA_len [] w
          rw [List.length_append, List.length_reverse] at g1
          have g4 : (cut w).length = (cutA [] w).length := rfl
          omega
        have c3 := s_plus_in (foldP [] (pre.map fun p => Tr.ofL (ord (low p)))) [Tr.ofL (ord (low p))] k m' (by rw [ht_one]; omega) (by simp [line]; omega) (by omega)
        rw [dL_one] at c3
        simp [c1, c2, c3]
        refine ⟨pre ++ [p], by simpa using e1, ?_⟩
        simp [foldP]
      · rintro r m' ⟨rfl, pre, x2, e1, rfl⟩
        rw [List.append_nil] at e1
        have eo : ord w = foldP [] ((cut w).reverse.map fun p => Tr.ofL (ord (low p))) := by rw [ord_step, hz]; rfl
        simp [e1, eo]
end Wk

set_option linter.all false
set_option maxRecDepth 100000
/-! Wk5 -/
namespace Wk
open PM PY Fn Ma
open PySem (Str)
variable {P : Pr}
abbrev S_is_number_in (P : Pr) := ∀ (l : List Tr) (k : Nat) (m : Mu), 1 ≤ k → callN P k "is_number_in" [.val (dL l)] m = some (.ok (.val (.bl (decide (l = []) || decide (l.head? = some .nil)))) false m)
theorem t_is_number_in (fd_is_number_in : P.fd "is_number_in" = some f_is_number_in) (gl_ZERO : P.glob "ZERO" = some (.tup [])) : S_is_number_in P := by
  intro l k m hk
  obtain ⟨k, rfl, hj⟩ := at_succ hk
  rw [callN_at fd_is_number_in _ _ _ rfl]
  cases l with
  | nil => simp [f_is_number_in, Pr.g, gl_ZERO, cop_eq_nil]
  | cons x l =>
    have hn : cop .Eq (dT x) (.tup []) = some (decide (x = .nil)) := cop_eq_dT x .nil (.inr (by simp [ht]))
    simp [f_is_number_in, Pr.g, gl_ZERO, cop_eq_nil, hn]
def jf (p : List Nat) (ps : List (List Nat)) : List Nat := ps.foldl (fun f q => f ++ 0 :: q) p
theorem jf_nil (p : List Nat) : jf p [] = p := rfl
theorem jf_snoc (p : List Nat) (ps : List (List Nat)) (q : List Nat) : jf p (ps ++ [q]) = jf p ps ++ 0 :: q := by simp [jf]
theorem jf_pre : ∀ (ps : List (List Nat)) (a b : List Nat), a ++ jf b ps = jf (a ++ b) ps
  | [], a, b => rfl
  | q :: ps, a, b => by
    have := jf_pre ps a (b ++ 0 :: q)
    simp only [jf, List.foldl_cons] at *
    rw [this, List.append_assoc]
theorem join_fold : ∀ (p : List Nat) (ps : List (List Nat)), join (p :: ps) = jf p ps
  | p, [] => rfl
  | p, q :: ps => by
    rw [join, join_fold q ps]
    have := jf_pre ps (p ++ [0]) q
    simp only [List.append_assoc, List.cons_append, List.nil_append] at this
    exact this
abbrev S_worm_in (P : Pr) := ∀ (n : Nat) (t : Tr) (k : Nat) (m : Mu), ht t ≤ n → nodes t ≤ 1000 → n + 2 ≤ k → callN P k "worm_in" [.val (dT t)] m = some (.ok (.val (dW (wrm t))) false m)
theorem t_worm_in (fd_worm_in : P.fd "worm_in" = some f_worm_in) (s_is_number_in : S_is_number_in P) (s_raised_in : S_raised_in P) : S_worm_in P := by
  intro n
  induction n with
  | zero =>
    intro t k m h1 h2 hk
    obtain ⟨k, rfl, hj⟩ := at_succ hk
    rw [callN_at fd_worm_in _ _ _ rfl]
    cases t with
    | cons h t => simp [ht] at h1
    | nil =>
      have e1 := s_is_number_in [] k m (by omega)
      have e2 : dT .nil = .tup [] := rfl
      have e3 : dL [] = .tup [] := rfl
      have e4 := bop_rep (x := .int 0) (n := 0) (by omega) (by omega)
      simp at e4
      simp [e3] at e1
      simp [f_worm_in, e1, e2, e4, wrm]
  | succ n ih =>
    intro t k m h1 h2 hk
    obtain ⟨k, rfl, hj⟩ := at_succ hk
    rw [callN_at fd_worm_in _ _ _ rfl]
    have e1 := s_is_number_in (Tr.kids t) k m (by omega)
    rw [← dT_dL] at e1
    have hlen := len_nodes (Tr.kids t)
    rw [Tr.ofL_kids] at hlen
    have hlt : (dTs t).length = (Tr.kids t).length := by rw [dTs_kids]; simp
    by_cases hz : (Tr.kids t).head? = some .nil ∨ Tr.kids t = []
    · have e4 := bop_rep (x := .int 0) (n := ((dTs t).length : Nat)) (by omega) (by omega)
      have e5 : (decide (Tr.kids t = []) || decide ((Tr.kids t).head? = some .nil)) = true := by simpa [or_comm] using hz
      rw [e5] at e1
      simp [f_worm_in, e1, e4]
      have : wrm t = List.replicate (Tr.kids t).length 0 := by
        cases t with
        | nil => rfl
        | cons h t =>
          simp [Tr.kids] at hz
          simp [wrm, hz, Tr.kids]
      rw [this, hlt]; simp
    · have e5 : (decide (Tr.kids t = []) || decide ((Tr.kids t).head? = some .nil)) = false := by
        rw [Bool.eq_false_iff]; intro hh; apply hz; simpa [or_comm] using hh
      rw [e5] at e1
      obtain ⟨h, t', rfl⟩ : ∃ h t', t = .cons h t' := by
        cases t with
        | nil => simp [Tr.kids] at hz
        | cons h t => exact ⟨h, t, rfl⟩
      have hh : h ≠ .nil := by intro e; apply hz; simp [Tr.kids, e]
      rw [wrm_cons hh]
      obtain ⟨z, L, hL⟩ : ∃ z L, (h :: Tr.kids t') = L ++ [z] := ⟨(h :: Tr.kids t').getLast (by simp), (h :: Tr.kids t').dropLast, (List.dropLast_concat_getLast (by simp)).symm⟩
      have kz : ∀ x ∈ L ++ [z], ∀ m, callN P k "worm_in" [.val (dT x)] m = some (.ok (.val (dW (wrm x))) false m) := fun x hx m => by
        have hx' : x ∈ Tr.kids (.cons h t') := by rw [Tr.kids, hL]; exact hx
        have a1 := ht_kid hx'
        have a2 := nodes_kid hx'
        exact ih x k m (by omega) (by omega) (by omega)
      have rz : ∀ x ∈ L ++ [z], ∀ m, callN P k "raised_in" [.val (dW (wrm x)), .val (.int 1)] m = some (.ok (.val (dW (up (wrm x)))) false m) := fun x hx m => by
        have hx' : x ∈ Tr.kids (.cons h t') := by rw [Tr.kids, hL]; exact hx
        have a2 := nodes_kid hx'
        have a3 := wrm_length x
        have := s_raised_in ((wrm x).map fun (n : Nat) => (n : Int)) 1 k m (by simp [line]; omega) (by omega)
        rwa [up_int, ← dW_dI] at this
      have eT : dT (.cons h t') = .tup (L.map dT ++ [dT z]) := by
        rw [dT_dL, Tr.kids, hL]; simp
      rw [eT] at e1 ⊢
      simp [f_worm_in, e1, kz z (by simp), rz z (by simp)]
      rw [← List.map_reverse]
      refine forE_inv (φ := dT) (Q := fun x => fin _ (seqS x _) = _) (fun rem r m' => m' = m ∧ ∃ pre x2, pre ++ rem = L.reverse ∧ r = [some (.val (.tup (L.map dT ++ [dT z]))), some (.val (dW (jf (up (wrm z)) (pre.map fun x => up (wrm x))))), x2] ∧ (jf (up (wrm z)) (pre.map fun x => up (wrm x))).length ≤ 1000 + pre.length * 1001) ?_ ?_ _ _ _ ⟨rfl, [], none, rfl, rfl, ?_⟩
      · rintro x l r m' ⟨rfl, pre, x2, e2, rfl, e3⟩
        refine ⟨_, rfl, ?_⟩
        have hx : x ∈ L := by rw [← List.mem_reverse, ← e2]; simp
        have hx' : x ∈ Tr.kids (.cons h t') := by rw [Tr.kids, hL]; simp [hx]
        have a2 := nodes_kid hx'
        have a3 := wrm_length x
        have hpre : pre.length ≤ 1000 := by
          have g1 := congrArg List.length e2
          have g2 := congrArg List.length hL
          simp [Tr.kids] at g1 g2 hlen
          omega
        have hp2 : pre.length * 1001 ≤ 1001000 := by omega
        have b1 := bop_cat (xs := (jf (up (wrm z)) (pre.map fun x => up (wrm x))).map fun (n : Nat) => D.int n) (ys := [.int 0]) (by simp [line] at e3 ⊢; omega)
        have b2 := bop_cat (xs := (jf (up (wrm z)) (pre.map fun x => up (wrm x))).map (fun (n : Nat) => D.int n) ++ [.int 0]) (ys := (up (wrm x)).map fun (n : Nat) => D.int n) (by simp [line] at e3 ⊢; omega)
        simp [kz x (by simp [hx]), rz x (by simp [hx]), b1, b2]
        refine ⟨pre ++ [x], by simpa using e2, ?_, ?_⟩
        · rw [List.map_append, List.map_singleton, jf_snoc]; simp
        · rw [List.map_append, List.map_singleton, jf_snoc]; simp; omega
      · rintro r m' ⟨rfl, pre, x2, e2, rfl, e3⟩
        rw [List.append_nil] at e2
        subst e2
        have eR := congrArg (fun l => (l.map fun x => up (wrm x)).reverse) hL
        simp only [List.map_cons, List.reverse_cons, List.map_append, List.map_nil, List.reverse_append, List.reverse_nil, List.nil_append, List.singleton_append] at eR
        rw [eR, join_fold]
        simp
      · rw [List.map_nil, jf_nil]; simp
        have a2 := nodes_kid (t := .cons h t') (x := z) (by rw [Tr.kids, hL]; simp)
        have a3 := wrm_length z
        omega
abbrev WormOk (w : List Nat) : Prop := w.length ≤ 400 ∧ ∀ x ∈ w, x ≤ 6
theorem plains_int : ∀ l : List Int, plains (l.map D.int) = true
  | [] => rfl
  | x :: l => by simp [plains, D.plain, plains_int l]
theorem plain_W (w : List Nat) : (dW w).plain = true := by rw [dW_dI, D.plain, plains_int]
theorem plain_dI (w : List Int) : (dI w).plain = true := by rw [D.plain, plains_int]
theorem wormB_W {w : List Nat} : wormB (dW w) = true ↔ WormOk w := by
  simp [wormB, btw, WormOk]
  intro _
  constructor
  · intro h x hx; have := h x hx; omega
  · intro h x hx; have := h x hx; omega
theorem wt_le {w : List Nat} (h : WormOk w) : wt w ≤ 2800 := by
  have : ∀ w : List Nat, (∀ x ∈ w, x ≤ 6) → wt w ≤ 7 * w.length := by
    intro w
    induction w with
    | nil => intro _; simp [wt]
    | cons a w ih =>
      intro h
      have h1 := h a (.head _)
      have h2 := ih fun x hx => h x (.tail _ hx)
      simp only [wt, List.map_cons, List.sum_cons, List.length_cons] at *
      omega
  have := this w h.2
  have := h.1
  omega
abbrev S_form_in (P : Pr) := ∀ (w : List Nat) (k : Nat) (m : Mu), WormOk w → nodes (Tr.ofL (ord w)) ≤ 1000 → 20 ≤ k → callN P k "form_in" [.val (dW w)] m = some (.ok (.val (dW (wrm (Tr.ofL (ord w))))) false m)
theorem t_form_in (fd_form_in : P.fd "form_in" = some f_form_in) (s_order_in : S_order_in P) (s_worm_in : S_worm_in P) : S_form_in P := by
  intro w k m h h2 hk
  obtain ⟨k, rfl, hj⟩ := at_succ hk
  rw [callN_at fd_form_in _ _ _ rfl]
  have e1 := s_order_in 6 w k m h.2 (by omega) (by have := wt_le h; omega) (by have := h.1; omega) (by omega)
  have e2 := s_worm_in 7 (Tr.ofL (ord w)) k m (ht_ordF 6 w h.2) h2 (by omega)
  rw [dT_ofL] at e2
  simp [f_form_in, e1, e2]
abbrev S_need_worm (P : Pr) := ∀ (w : List Nat) (k : Nat) (m : Mu), WormOk w → 4 ≤ k → callN P k "need_worm" [.val (dW w)] m = some (.ok (.val .non) false m)
theorem t_need_worm (fd_need_worm : P.fd "need_worm" = some f_need_worm) (s_is_worm_in : S_is_worm_in P) : S_need_worm P := by
  intro w k m h hk
  obtain ⟨k, rfl, hj⟩ := at_succ hk
  rw [callN_at fd_need_worm _ _ _ rfl]
  simp [f_need_worm, s_is_worm_in (dW w) k m (plain_W w) hj, wormB_W.2 h]
abbrev S_raised (P : Pr) := ∀ (w : List Nat) (n : Nat) (k : Nat) (m : Mu), WormOk w → n ≤ 6 → WormOk (w.map (· + n)) → 6 ≤ k → callN P k "raised" [.val (dW w), .val (.int n)] m = some (.ok (.val (dW (w.map (· + n)))) false m)
theorem t_raised (fd_raised : P.fd "raised" = some f_raised) (fd_moved : P.fd "moved" = some f_moved) (s_need_worm : S_need_worm P) (s_need_number : S_need_number P) (s_raised_in : S_raised_in P) (s_is_worm_in : S_is_worm_in P) (gl_MOST_LETTER : P.glob "MOST_LETTER" = some (.int 6)) : S_raised P := by
  intro w n k m h h2 h3 hk
  obtain ⟨k, rfl, hj⟩ := at_succ hk
  rw [callN_at fd_raised _ _ _ rfl]
  obtain ⟨k, rfl, hj⟩ := at_succ hj
  have e1 := s_raised_in (w.map fun (n : Nat) => (n : Int)) n k m (by have := h.1; simp [line]; omega) (by omega)
  have e0 : dI ((w.map fun (n : Nat) => (n : Int)).map (· + (n : Int))) = dW (w.map (· + n)) := by simp [Function.comp_def]
  rw [e0, ← dW_dI] at e1
  have e2 : callN P (k + 1) "moved" [.val (dW w), .val (.int n), .val (.fn "raised_in")] m = some (.ok (.val (dW (w.map (· + n)))) false m) := by
    rw [callN_at fd_moved _ _ _ rfl]
    simp [f_moved, s_need_worm w k m h (by omega), s_need_number n 0 6 k m (by omega) (by omega) (by omega), Pr.g, gl_MOST_LETTER, e1, s_is_worm_in (dW (w.map (· + n))) k m (plain_W _) (by omega), wormB_W.2 h3]
  simp [f_raised, e2]
abbrev S_order (P : Pr) := ∀ (w : List Nat) (k : Nat) (m : Mu), WormOk w → 20 ≤ k → callN P k "order" [.val (dW w)] m = some (.ok (.val (dL (ord w))) false m)
theorem t_order (fd_order : P.fd "order" = some f_order) (s_need_worm : S_need_worm P) (s_order_in : S_order_in P) : S_order P := by
  intro w k m h hk
  obtain ⟨k, rfl, hj⟩ := at_succ hk
  rw [callN_at fd_order _ _ _ rfl]
  have e1 := s_order_in 6 w k m h.2 (by omega) (by have := wt_le h; omega) (by have := h.1; omega) (by omega)
  simp [f_order, s_need_worm w k m h (by omega), e1]
abbrev S_worm_of (P : Pr) := ∀ (t : Tr) (k : Nat) (m : Mu), OrdOk t → WormOk (wrm t) → 70 ≤ k → callN P k "worm_of" [.val (dT t)] m = some (.ok (.val (dW (wrm t))) false m)
theorem t_worm_of (fd_worm_of : P.fd "worm_of" = some f_worm_of) (s_need_ordinal : S_need_ordinal P) (s_worm_in : S_worm_in P) (s_is_worm_in : S_is_worm_in P) : S_worm_of P := by
  intro t k m h h2 hk
  obtain ⟨k, rfl, hj⟩ := at_succ hk
  rw [callN_at fd_worm_of _ _ _ rfl]
  have e1 := s_need_ordinal t k m h.1 h.2.1 h.2.2 (by omega)
  have e2 := s_worm_in 59 t k m h.2.2 (by have := h.2.1; omega) (by omega)
  simp [f_worm_of, e1, e2, s_is_worm_in (dW (wrm t)) k m (plain_W _) (by omega), wormB_W.2 h2]
abbrev S_form_of (P : Pr) := ∀ (w : List Nat) (k : Nat) (m : Mu), WormOk w → nodes (Tr.ofL (ord w)) ≤ 1000 → 21 ≤ k → callN P k "form_of" [.val (dW w)] m = some (.ok (.val (dW (wrm (Tr.ofL (ord w))))) false m)
theorem t_form_of (fd_form_of : P.fd "form_of" = some f_form_of) (s_need_worm : S_need_worm P) (s_form_in : S_form_in P) : S_form_of P := by
  intro w k m h h2 hk
  obtain ⟨k, rfl, hj⟩ := at_succ hk
  rw [callN_at fd_form_of _ _ _ rfl]
  simp [f_form_of, s_need_worm w k m h (by omega), s_form_in w k m h h2 hj]
abbrev dWs (l : List (List Nat)) : D := .tup (l.map dW)
abbrev S_pieces (P : Pr) := ∀ (w : List Nat) (k : Nat) (m : Mu), WormOk w → 10 ≤ k → callN P k "pieces" [.val (dW w)] m = some (.ok (.val (dWs ((cut w).map low))) false m)
theorem t_pieces (fd_pieces : P.fd "pieces" = some f_pieces) (s_need_worm : S_need_worm P) (s_pieces_of : S_pieces_of P) (s_lowered_in : S_lowered_in P) : S_pieces P := by
  intro w k m h hk
  obtain ⟨k, rfl, hj⟩ := at_succ hk
  rw [callN_at fd_pieces _ _ _ rfl]
  have hl := h.1
  simp [f_pieces, s_need_worm w k m h (by omega), s_pieces_of w k m (by simp [line]; omega) (by omega)]
  rw [cmpE_map (φ := dW) (ψ := fun p => dW (low p)) (l := cut w)]
  · simp [Function.comp_def]
  · intro p hp
    have c1 := s_lowered_in (p.map fun (n : Nat) => (n : Int)) 1 k m (by have := cut_len_mem hp; simp [line]; omega) (by omega)
    rw [low_int (fun x hx => (cut_mem hp x hx).2), ← dW_dI] at c1
    simp [c1]
  · have g2 := cutA_len [] w
    have g4 : (cut w).length = (cutA [] w).length := rfl
    simp [line]; omega
abbrev S_put_together (P : Pr) := ∀ (p : List Nat) (ps : List (List Nat)) (k : Nat) (m : Mu), p.length ≤ 10000 → (∀ q ∈ ps, q.length ≤ 1000) → ps.length ≤ 1000 → 2 ≤ k → callN P k "put_together" [.val (dWs (p :: ps))] m = some (.ok (.val (dW (jf (up p) (ps.map up)))) false m)
theorem jf_len (p : List Nat) (ps : List (List Nat)) (c : Nat) (h : ∀ q ∈ ps, q.length ≤ c) : (jf p ps).length ≤ p.length + ps.length * (c + 1) := by
  induction ps generalizing p with
  | nil => simp [jf]
  | cons q ps ih =>
    have := ih (p ++ 0 :: q) (fun x hx => h x (.tail _ hx))
    have hq := h q (.head _)
    simp [jf, Nat.add_mul] at *
    omega
theorem t_put_together (fd_put_together : P.fd "put_together" = some f_put_together) (s_raised_in : S_raised_in P) : S_put_together P := by
  intro p ps k m h1 h2 h3 hk
  obtain ⟨k, rfl, hj⟩ := at_succ hk
  rw [callN_at fd_put_together _ _ _ rfl]
  have up1 : ∀ q : List Nat, q.length ≤ 10000 → ∀ m, callN P k "raised_in" [.val (dW q), .val (.int 1)] m = some (.ok (.val (dW (up q))) false m) := fun q hq m => by
    have := s_raised_in (q.map fun (n : Nat) => (n : Int)) 1 k m (by simp [line]; omega) (by omega)
    rwa [up_int, ← dW_dI] at this
  have hi : idxD (dWs (p :: ps)) (.int 0) = some (dW p) := idx_head _ _
  have hs : slcB true false (dWs (p :: ps)) [.int 1] = some (dWs ps, false) := by simp
  simp only [f_put_together]
  simp [hi, up1 p h1, hs]
  refine forE_inv (φ := dW) (Q := fun x => fin _ (seqS x _) = _) (fun rem r m' => m' = m ∧ ∃ pre x2, pre ++ rem = ps ∧ r = [some (.val (dWs (p :: ps))), some (.val (dW (jf (up p) (pre.map up)))), x2]) ?_ ?_ _ _ _ ⟨rfl, [], none, rfl, rfl⟩
  · rintro q l r m' ⟨rfl, pre, x2, e2, rfl⟩
    refine ⟨_, rfl, ?_⟩
    have hq : q.length ≤ 1000 := h2 q (by rw [← e2]; simp)
    have hpre : ∀ x ∈ pre.map up, x.length ≤ 1000 := by
      intro x hx
      obtain ⟨y, hy, rfl⟩ := List.mem_map.1 hx
      have := h2 y (by rw [← e2]; simp [hy])
      simpa using this
    have hl := jf_len (up p) (pre.map up) 1000 hpre
    have hpl : pre.length ≤ 1000 := by have := congrArg List.length e2; simp at this; omega
    simp only [List.length_map] at hl
    have b1 := bop_cat (xs := (jf (up p) (pre.map up)).map fun (n : Nat) => D.int n) (ys := [.int 0]) (by simp [line] at *; omega)
    have b2 := bop_cat (xs := (jf (up p) (pre.map up)).map (fun (n : Nat) => D.int n) ++ [.int 0]) (ys := (up q).map fun (n : Nat) => D.int n) (by simp [line] at *; omega)
    simp [up1 q (by omega), b1, b2]
    refine ⟨pre ++ [q], by simpa using e2, ?_⟩
    rw [List.map_append, List.map_singleton, jf_snoc]; simp
  · rintro r m' ⟨rfl, pre, x2, e2, rfl⟩
    rw [List.append_nil] at e2
    subst e2
    simp
abbrev S_from_pieces (P : Pr) := ∀ (p : List Nat) (ps : List (List Nat)) (k : Nat) (m : Mu), (∀ q ∈ p :: ps, WormOk q) → ps.length ≤ 1000 → WormOk (jf (up p) (ps.map up)) → 10 ≤ k → callN P k "from_pieces" [.val (dWs (p :: ps))] m = some (.ok (.val (dW (jf (up p) (ps.map up)))) false m)
theorem plain_Ws : ∀ l : List (List Nat), plains (l.map dW) = true
  | [] => rfl
  | x :: l => by rw [List.map_cons, plains, plain_W, plain_Ws l]; rfl
theorem t_from_pieces (fd_from_pieces : P.fd "from_pieces" = some f_from_pieces) (s_is_tuple : S_is_tuple P) (s_is_worm_in : S_is_worm_in P) (s_put_together : S_put_together P) : S_from_pieces P := by
  intro p ps k m h1 h2 h3 hk
  obtain ⟨k, rfl, hj⟩ := at_succ hk
  rw [callN_at fd_from_pieces _ _ _ rfl]
  have e1 := s_is_tuple (dWs (p :: ps)) 1 none k m (by rw [D.plain, plain_Ws]) (by omega)
  have e9 : decide ((1 : Int) ≤ (ps.length : Int) + 1) = true := by simp; omega
  simp [e9] at e1
  have e2 : ∀ q ∈ p :: ps, ∀ m, callN P k "is_worm_in" [.val (dW q)] m = some (.ok (.val (.bl true)) false m) := fun q hq m => by
    rw [s_is_worm_in (dW q) k m (plain_W q) (by omega), wormB_W.2 (h1 q hq)]
  have e3 := s_put_together p ps k m (by have := (h1 p (.head _)).1; omega) (fun q hq => by have := (h1 q (.tail _ hq)).1; omega) h2 (by omega)
  have e4 := s_is_worm_in (dW (jf (up p) (ps.map up))) k m (plain_W _) (by omega)
  rw [wormB_W.2 h3] at e4
  simp only [f_from_pieces]
  have e5 := cmpE_map (c := ⟨P.g, callN P k⟩) (elt := .call "is_worm_in" [(.var 2)] [0]) (a := none) (r := [some (.val (dWs (p :: ps))), none, none, none]) (m := m) (l := p :: ps) dW (fun x => .bl true) 2 (fun x hx => by
    simp [e2 x hx]) (by simp [line]; omega)
  have e6 : blt .all [.lst ((p :: ps).map fun _ => .bl true)] = some (.bl true, false) := by
    rw [all_lst (fun _ => true)]; simp
  simp only [List.map_cons] at e5 e6
  simp [e9, e1, e5, e6, e3, e4]
end Wk

set_option linter.all false
set_option maxRecDepth 100000
/-! Wl2 -/
namespace Wk
open PM PY Fn Ma
open PySem (Str)
variable {P : Pr}
theorem lt_cons (x y a b : Tr) : Tr.lt (.cons x a) (.cons y b) = (Tr.lt x y || (!Tr.lt y x && Tr.lt a b)) := by
  simp only [Tr.lt, Tr.cmp]
  rw [← Tr.cmp_swap x y]
  cases Tr.cmp x y <;> simp [Ordering.then]
abbrev S_law_less (P : Pr) := ∀ (n : Nat) (a b : Tr) (k : Nat) (m : Mu), ht a ≤ n → ht b ≤ n → n + 1 ≤ k → callN P k "_law_less" [.val (dT a), .val (dT b)] m = some (.ok (.val (.bl (Tr.lt a b))) false m)
theorem t_law_less (fd__law_less : P.fd "_law_less" = some f__law_less) : S_law_less P := by
  intro n
  induction n with
  | zero =>
    intro a b k m h1 h2 hk
    obtain ⟨k, rfl, hj⟩ := at_succ hk
    rw [callN_at fd__law_less _ _ _ rfl]
    cases a with
    | cons => simp [ht] at h1
    | nil =>
      cases b with
      | cons => simp [ht] at h2
      | nil => simp [f__law_less, dTs, zipD]; rfl
  | succ n ih =>
    intro a b k m h1 h2 hk
    obtain ⟨k, rfl, hj⟩ := at_succ hk
    rw [callN_at fd__law_less _ _ _ rfl]
    rw [dT_dL a, dT_dL b]
    simp [f__law_less, zipD_map]
    refine forE_inv (φ := fun p : Tr × Tr => .tup [dT p.1, dT p.2]) (Q := fun x => fin _ (seqS x _) = some (R.ok (.val (.bl (Tr.lt a b))) false m)) (fun rem r m' => m' = m ∧ ∃ la lb x2 x3, rem = la.zip lb ∧ (∀ x ∈ la, ht x ≤ n) ∧ (∀ x ∈ lb, ht x ≤ n) ∧ Tr.lt a b = Tr.lt (Tr.ofL la) (Tr.ofL lb) ∧ ((Tr.kids a).length < (Tr.kids b).length ↔ la.length < lb.length) ∧ r = [some (.val (dL (Tr.kids a))), some (.val (dL (Tr.kids b))), x2, x3]) ?_ ?_ _ _ _ ⟨rfl, Tr.kids a, Tr.kids b, none, none, rfl, fun x hx => by have := ht_kid hx; omega, fun x hx => by have := ht_kid hx; omega, by simp, Iff.rfl, rfl⟩
    · rintro p l r m' ⟨rfl, la, lb, x2, x3, e1, ha, hb, e2, e3, rfl⟩
      cases la with
      | nil => cases e1
      | cons x la =>
      cases lb with
      | nil => cases e1
      | cons y lb =>
      rw [List.zip_cons_cons] at e1
      injection e1 with e4 e5
      subst e4
      refine ⟨_, rfl, ?_⟩
      have hx := ha x (.head _)
      have hy := hb y (.head _)
      have c1 := ih x y k m' hx hy hj
      have c2 := ih y x k m' hy hx hj
      rw [Tr.ofL, Tr.ofL, lt_cons] at e2
      simp [c1]
      cases e6 : Tr.lt x y with
      | true => rw [e6] at e2; simp [e2]
      | false =>
        simp [c2]
        cases e7 : Tr.lt y x with
        | true => rw [e6, e7] at e2; simp [e2]
        | false =>
          rw [e6, e7] at e2
          simp
          exact ⟨la, lb, e5, fun z hz => ha z (.tail _ hz), fun z hz => hb z (.tail _ hz), by simpa using e2, by simpa using e3⟩
    · rintro r m' ⟨rfl, la, lb, x2, x3, e1, ha, hb, e2, e3, rfl⟩
      have e4 : Tr.lt (Tr.ofL la) (Tr.ofL lb) = decide (la.length < lb.length) := by
        cases la with
        | nil => cases lb <;> simp [Tr.ofL, Tr.lt, Tr.cmp]
        | cons x la =>
          cases lb with
          | nil => simp [Tr.ofL, Tr.lt, Tr.cmp]
          | cons y lb => cases e1
      simp [e2, e4, e3]
theorem not_lt_le (a b : Tr) : (!Tr.lt a b) = Tr.le b a := by rw [Tr.lt_not_le]; simp
abbrev S_law_plus (P : Pr) := ∀ (a b : List Tr) (k : Nat) (m : Mu), ht (Tr.ofL a) ≤ 60 → ht (Tr.ofL b) ≤ 60 → a.length + b.length ≤ line → 62 ≤ k → callN P k "_law_plus" [.val (dL a), .val (dL b)] m = some (.ok (.val (dL (plus a b))) false m)
theorem t_law_plus (fd__law_plus : P.fd "_law_plus" = some f__law_plus) (s__law_less : S_law_less P) : S_law_plus P := by
  intro a b k m h1 h2 h3 hk
  obtain ⟨k, rfl, hj⟩ := at_succ hk
  rw [callN_at fd__law_plus _ _ _ rfl]
  simp [f__law_plus, cop_eq_nil]
  cases b with
  | nil => simp [plus]
  | cons y b =>
    have hy : ht y ≤ 59 := by have := ht_kid (a := Tr.ofL (y :: b)) (x := y) (by simp); omega
    simp
    rw [cmpE_if (φ := dT) (ψ := dT) (p := fun x => Tr.le y x)]
    · simp [rds, blt, plus]
      rw [bop_cat]
      · simp
      · have := List.length_filter_le (fun x => Tr.le y x) a
        simp at *; omega
    · intro x hx
      have hx' : ht x ≤ 59 := by have := ht_kids_le hx; omega
      simp [s__law_less 60 x y k m (by omega) (by omega) hj, not_lt_le]
    · intro x hx _; simp [wipeR]
    · simp at *; omega
/-! Wl2 -/
theorem maxI_nat : ∀ (l : List Nat) (m : Nat), maxI m (l.map fun (n : Nat) => (n : Int)) = ((l.foldl max m : Nat) : Int)
  | [], m => rfl
  | x :: l, m => by
    rw [List.map_cons, maxI, List.foldl_cons, ← maxI_nat l (max m x)]
    congr 1
    split <;> omega
theorem foldl_max : ∀ (l : List Nat) (m : Nat), l.foldl max m = max m (top l)
  | [], m => by simp [top]
  | x :: l, m => by rw [List.foldl_cons, foldl_max l]; simp only [top, List.foldr_cons]; omega
theorem max_W (x : Nat) (w : List Nat) : blt .max [dW (x :: w)] = some (.int ((top (x :: w) : Nat) : Int), false) := by
  rw [dW_dI]
  have h := intsOf_map (fun (n : Nat) => (n : Int)) (x :: w)
  have h2 := maxI_nat w x
  rw [foldl_max] at h2
  rw [List.map_cons] at h
  simp only [blt, seqD, Option.bind_some, List.map_cons]
  simp only [List.map_map, Function.comp_def]
  simp only [List.map_cons] at h
  rw [h]
  simp only [Option.bind_some, h2]
  rfl
theorem top_app (w v : List Nat) : top (w ++ v) = max (top w) (top v) := by
  induction w with
  | nil => simp [top]
  | cons x w ih => simp only [List.cons_append, top, List.foldr_cons] at *; rw [ih]; omega
theorem max_W0 (w : List Nat) : blt .max [.tup (w.map (fun (n : Nat) => D.int n) ++ [.int 0])] = some (.int ((top w : Nat) : Int), false) := by
  have e : D.tup (w.map (fun (n : Nat) => D.int n) ++ [.int 0]) = dW (w ++ [0]) := by simp
  rw [e]
  have e2 : top (w ++ [0]) = top w := by rw [top_app]; simp [top]
  rw [← e2]
  cases w with
  | nil => exact max_W 0 []
  | cons x w => exact max_W x (w ++ [0])
theorem top_zero (w : List Nat) : top w = 0 ↔ zeros w = true := by
  constructor
  · intro h
    exact zeros_of (top_le.1 (Nat.le_of_eq h))
  · intro h
    have : top w ≤ 0 := top_le.2 fun x hx => by
      simp only [zeros, List.all_eq_true, beq_iff_eq] at h
      exact Nat.le_of_eq (h x hx)
    omega
theorem cutA_shift (h w : List Nat) : ∃ p ps, cut w = p :: ps ∧ cutA h w = (h ++ p) :: ps := by
  have : ∀ (w g h : List Nat), ∃ p ps, cutA g w = (g ++ p) :: ps ∧ cutA h w = (h ++ p) :: ps := by
    intro w
    induction w with
    | nil => intro g h; exact ⟨[], [], by simp [cutA], by simp [cutA]⟩
    | cons a w ih =>
      intro g h
      cases a with
      | zero => exact ⟨[], cut w, by simp [cutA], by simp [cutA]⟩
      | succ k =>
        obtain ⟨p, ps, e1, e2⟩ := ih (g ++ [k + 1]) (h ++ [k + 1])
        exact ⟨(k + 1) :: p, ps, by rw [cutA, e1]; simp, by rw [cutA, e2]; simp⟩
  obtain ⟨p, ps, e1, e2⟩ := this w [] h
  exact ⟨p, ps, by simpa using e1, e2⟩
theorem cut_cons (x : Nat) (hx : x ≠ 0) {w p : List Nat} {ps : List (List Nat)} (h : cut w = p :: ps) : cut (x :: w) = (x :: p) :: ps := by
  obtain ⟨y, rfl⟩ : ∃ y, x = y + 1 := ⟨x - 1, by omega⟩
  obtain ⟨p', ps', e1, e2⟩ := cutA_shift [y + 1] w
  rw [h] at e1
  injection e1 with e3 e4
  subst e3; subst e4
  rw [show cut ((y + 1) :: w) = cutA ([] ++ [y + 1]) w from rfl]
  simpa using e2
theorem foldP_snoc (a xs : List Tr) (x : Tr) : foldP a (xs ++ [x]) = plus (foldP a xs) [x] := by simp [foldP]
theorem len_foldP : ∀ (xs a : List Tr), (foldP a xs).length ≤ a.length + xs.length
  | [], a => by simp [foldP]
  | x :: xs, a => by
    have h1 := len_foldP xs (plus a [x])
    have h2 := len_plus a [x]
    simp only [foldP, List.foldl_cons, List.length_cons, List.length_nil] at *
    omega
theorem ht_foldP (n : Nat) : ∀ (xs a : List Tr), ht (Tr.ofL a) ≤ n → (∀ x ∈ xs, ht x + 1 ≤ n) → ht (Tr.ofL (foldP a xs)) ≤ n
  | [], a, h, _ => h
  | x :: xs, a, h, g => by
    rw [foldP, List.foldl_cons]
    refine ht_foldP n xs _ ?_ fun y hy => g y (.tail _ hy)
    refine Nat.le_trans ht_plus ?_
    rw [ht_one]
    have := g x (.head _)
    omega
/-- the sum that pieces give -/
def fP (ps : List (List Nat)) : List Tr := foldP [] (ps.reverse.map fun p => Tr.ofL (ord (low p)))
theorem fP_nil : fP [] = [] := rfl
theorem fP_cons (p : List Nat) (ps : List (List Nat)) : fP (p :: ps) = plus (fP ps) [Tr.ofL (ord (low p))] := by
  rw [fP, List.reverse_cons, List.map_append, List.map_singleton, foldP_snoc]; rfl
theorem fP_whole (w : List Nat) : fP (cut w) = whole w := rfl
theorem fP_len (ps : List (List Nat)) : (fP ps).length ≤ ps.length := by
  have := len_foldP (ps.reverse.map fun p => Tr.ofL (ord (low p))) []
  simpa [fP] using this
theorem fP_ht {n : Nat} {ps : List (List Nat)} (h : ∀ p ∈ ps, ∀ x ∈ low p, x ≤ n) : ht (Tr.ofL (fP ps)) ≤ n + 2 := by
  refine ht_foldP (n + 2) _ _ (by simp [Tr.ofL, ht]) fun x hx => ?_
  obtain ⟨p, hp, rfl⟩ := List.mem_map.1 hx
  have := ht_ordF n (low p) (h p (List.mem_reverse.1 hp))
  omega
theorem idx_W {w : List Nat} {i : Nat} (h : i < w.length) : idxD (dW w) (.int i) = some (.int (w[i] : Nat)) := by
  simp [idxD, atD, ixN, h]
abbrev S_law_order (P : Pr) := ∀ (n : Nat) (w : List Nat) (k : Nat) (m : Mu), (∀ x ∈ w, x ≤ n) → n ≤ 50 → w.length ≤ 1000 → n + 63 ≤ k → callN P k "_law_order" [.val (dW w)] m = some (.ok (.val (dL (ord w))) false m)
set_option trace.profiler true in
set_option trace.profiler.threshold 4000 in
theorem t_law_order (fd__law_order : P.fd "_law_order" = some f__law_order) (s__law_plus : S_law_plus P) : S_law_order P := by
  have zcase : ∀ (w : List Nat) (k : Nat) (m : Mu), zeros w = true → w.length ≤ 1000 → 1 ≤ k → callN P k "_law_order" [.val (dW w)] m = some (.ok (.val (dL (ord w))) false m) := by
    intro w k m hz hl hk
    obtain ⟨k, rfl, hj⟩ := at_succ hk
    rw [callN_at fd__law_order _ _ _ rfl]
    have eo : ord w = List.replicate w.length .nil := by rw [ord_step, if_pos hz]
    have e1 := bop_cat (xs := w.map fun (n : Nat) => D.int n) (ys := [.int 0]) (by simp [line]; omega)
    have e2 := bop_rep (x := .tup []) (n := (w.length : Nat)) (by omega) (by omega)
    have e3 : dL (List.replicate w.length .nil) = .tup (List.replicate w.length (.tup [])) := by rw [dL, List.map_replicate]; rfl
    simp -implicitDefEqProofs [f__law_order, e1, max_W0, (top_zero w).2 hz, e2, eo, e3]
  intro n
  induction n with
  | zero => intro w k m h1 h2 h3 hk; exact zcase w k m (zeros_of h1) h3 (by omega)
  | succ n ih =>
    intro w k m h1 h2 h3 hk
    by_cases hz : zeros w = true
    · exact zcase w k m hz h3 (by omega)
    obtain ⟨k, rfl, hj⟩ := at_succ hk
    rw [callN_at fd__law_order _ _ _ rfl]
    have ht0 : ¬ top w = 0 := by
      intro h; apply hz; rw [← top_zero]; exact h
    rw [Bool.not_eq_true] at hz
    have e1 := bop_cat (xs := w.map fun (n : Nat) => D.int n) (ys := [.int 0]) (by simp [line]; omega)
    have e2 : rngOf [.int ((w.length : Int) + 1)] = some (rngL 0 (w.length + 1)) := by
      have := rngOf_1 (w.length + 1) (by omega)
      simpa using this
    have ow : ord w = fP (cut w) := ord_whole hz
    simp -implicitDefEqProofs [f__law_order, e1, max_W0, ht0, e2]
    refine forE_rng (Q := fun x => fin _ (seqS x _) = some (R.ok (.val (dL (ord w))) false m)) (lo := 0) (fun i r m' => m' = m ∧ ∃ x3 x4, (if i = w.length + 1 then ∃ h, r = [some (.val (dW w)), some (.val (dL (ord w))), h, x3, x4, none] else ∃ v H ps, w = w.take (w.length - i) ++ v ∧ v.length = i ∧ cut v = H :: ps ∧ r = [some (.val (dW w)), some (.val (dL (fP ps))), some (.val (.lst (H.map fun (n : Nat) => D.int n))), x3, x4, none])) (w.length + 1) ?_ ?_ _ _ ⟨rfl, none, none, by rw [if_neg (by omega)]; exact ⟨[], [], [], by simp, rfl, rfl, rfl⟩⟩
    · rintro i r m' hi ⟨rfl, x3, x4, h⟩
      rw [if_neg (by omega)] at h
      obtain ⟨v, H, ps, e3, e4, e5, rfl⟩ := h
      have hv : ∀ x ∈ v, x ≤ n + 1 := fun x hx => h1 x (by rw [e3]; simp [hx])
      have hH := low_le hv (p := H) (by rw [e5]; exact .head _)
      have hHpos : ∀ x ∈ H, 0 < x := fun x hx => (cut_mem (w := v) (p := H) (by rw [e5]; exact .head _) x hx).2
      have hHl : H.length ≤ v.length := cut_len_mem (by rw [e5]; exact .head _)
      have hps : ps.length ≤ v.length := by
        have g1 := cutA_len [] v
        have g2 : (cut v).length = (cutA [] v).length := rfl
        rw [e5, List.length_cons] at g2
        omega
      have c1 := ih (low H) k m' hH (by omega) (by simp; omega) (by omega)
      have hf : ht (Tr.ofL (fP ps)) ≤ n + 2 := fP_ht fun p hp => low_le hv (by rw [e5]; exact .tail _ hp)
      have hlf := fP_len ps
      have hho := ht_ordF n (low H) hH
      have c2 := s__law_plus (fP ps) [Tr.ofL (ord (low H))] k m' (by omega) (by rw [ht_one]; omega) (by simp [line]; omega) (by omega)
      rw [dL_one] at c2
      have hsub : ∀ mm, cmpE ⟨P.g, callN P k⟩ (.one 5) [] (.bin .Sub (.var 5) (.con (.int 1))) none [some (.val (dW w)), some (.val (dL (fP ps))), some (.val (.lst (H.map fun (n : Nat) => D.int n))), some (.val (.int i)), some (.val (.int ((w.length : Int) - 1 - i))), none] (H.map fun (n : Nat) => D.int n) mm = some (.ok (.val (.lst ((low H).map fun (n : Nat) => D.int n))) true mm) := fun mm => by
        rw [cmpE_map (φ := fun (n : Nat) => D.int n) (ψ := fun (n : Nat) => D.int ((n - 1 : Nat) : Int))]
        · simp [low, Function.comp_def]
        · intro x hx
          have := hHpos x hx
          have e : ((x - 1 : Nat) : Int) = (x : Int) - 1 := by omega
          simp [e]
        · simp [line]; omega
      have cw : D.tup (List.map ((fun (n : Nat) => D.int n) ∘ fun x => x - 1) H) = dW (low H) := by simp
      refine ⟨_, rfl, ?_⟩
      simp only [Int.zero_add]
      rcases Nat.lt_or_ge i w.length with hlt | hge
      · -- a letter
        have hat : ¬ ((w.length : Int) - 1 - i < 0) := by omega
        have hix : ((w.length : Int) - 1 - i) = ((w.length - 1 - i : Nat) : Int) := by omega
        have hbd : w.length - 1 - i < w.length := by omega
        have e6 := idx_W hbd
        have e7 : w = w.take (w.length - (i + 1)) ++ (w[w.length - 1 - i] :: v) := by
          have : w.take (w.length - i) = w.take (w.length - (i + 1)) ++ [w[w.length - 1 - i]] := by
            rw [show w.length - i = (w.length - 1 - i) + 1 by omega, List.take_succ_eq_append_getElem hbd, show w.length - (i + 1) = w.length - 1 - i by omega]
          conv => lhs; rw [e3, this]
          simp
        rw [← hix] at e6
        generalize hy : w[w.length - 1 - i] = y at e6 e7
        by_cases h0 : y = 0
        · subst h0
          simp only [Int.natCast_zero] at e6
          simp -implicitDefEqProofs [hat, e6, hsub, cw, c1, c2]
          refine ⟨some (T.val (D.int ↑i)), some (T.val (D.int (↑w.length - 1 - ↑i))), ?_⟩
          rw [if_neg (by omega)]
          refine ⟨0 :: v, e7, by simp [e4], [], H :: ps, ?_, ?_, rfl, rfl, rfl⟩
          · show cutA [] (0 :: v) = _
            rw [cutA]; rw [show cutA [] v = cut v from rfl, e5]
          · simp [fP_cons]
        · have e8 : ¬ (y : Int) = 0 := by omega
          have b1 := bop_catL (xs := [.int y]) (ys := H.map fun (n : Nat) => D.int n) (by simp [line]; omega)
          simp -implicitDefEqProofs [hat, e6, h0, b1]
          refine ⟨some (T.val (D.int ↑i)), some (T.val (D.int (↑w.length - 1 - ↑i))), ?_⟩
          rw [if_neg (by omega)]
          refine ⟨y :: v, e7, by simp [e4], y :: H, ps, cut_cons y h0 e5, ?_⟩
          simp
      · -- the end
        have hi2 : i = w.length := by omega
        subst hi2
        have hat : ((w.length : Int) - 1 - (w.length : Nat) < 0) := by omega
        have hwv : w = v := by simpa using e3
        subst hwv
        simp -implicitDefEqProofs [hat, hsub, cw, c1, c2]
        rw [ow, e5]
        simp [fP_cons]
    · rintro r m' ⟨rfl, x3, x4, h⟩
      rw [if_pos rfl] at h
      obtain ⟨h, rfl⟩ := h
      simp
end Wk

set_option linter.all false
set_option maxRecDepth 100000
/-! Wl3 -/
namespace Wk
open PM PY Fn Ma
open PySem (Str)
variable {P : Pr}
theorem WellAt.lt {m : Mu} {j B : Nat} (h : WellAt m j B) : j < m.length := by
  obtain ⟨a, b, c, e, _⟩ := h
  rcases Nat.lt_or_ge j m.length with h1 | h1
  · exact h1
  · rw [List.getElem?_eq_none h1] at e; cases e
theorem WellAt.app {m : Mu} {j B : Nat} (h : WellAt m j B) (l : Mu) : WellAt (m ++ l) j B := by
  have := h.lt
  obtain ⟨a, b, c, e, h⟩ := h
  exact ⟨a, b, c, by rw [List.getElem?_append_left this]; exact e, h⟩
theorem WellAt.mono {m : Mu} {j B B' : Nat} (h : WellAt m j B) (g : B ≤ B') : WellAt m j B' := by
  obtain ⟨a, b, c, e, h1, h2, h3, h4, h5⟩ := h
  exact ⟨a, b, c, e, h1, h2, h3, h4, by omega⟩
theorem WellAt.of_app {m l : Mu} {j B : Nat} (hj : j < m.length) (h : WellAt (m ++ l) j B) : WellAt m j B := by
  obtain ⟨a, b, c, e, h⟩ := h
  exact ⟨a, b, c, by rwa [List.getElem?_append_left hj] at e, h⟩
theorem set_left {m l : Mu} {j : Nat} {o : Ob} (hj : j < m.length) : (m ++ l).set j o = m.set j o ++ l := List.set_append_left _ _ hj
/-- a draw within a frame: cells stand behind -/
theorem draw_app (s__law_draw : S_law_draw P) {j n : Nat} {m l : Mu} {B k : Nat} (h : WellAt m j B) (h1 : 0 < n) (h2 : n ≤ 1000000) (hB : B ≤ 1000000) (hk : 1 ≤ k) :
    ∃ (v : Nat) (o : Ob), v < n ∧ callN P k "_law_draw" [.loc j, .val (.int n)] (m ++ l) = some (.ok (.val (.int v)) false (m.set j o ++ l)) ∧ WellAt (m.set j o) j (B + 1) := by
  obtain ⟨v, o, e1, e2, e3⟩ := s__law_draw j n (m ++ l) B k (h.app l) h1 h2 hB hk
  rw [set_left h.lt] at e2 e3
  exact ⟨v, o, e1, e2, e3.of_app (by simpa using h.lt)⟩
abbrev S_law_worm (P : Pr) := ∀ (j many most : Nat) (m : Mu) (B k : Nat), WellAt m j B → many ≤ 1000 → most ≤ 1000 → B + many ≤ 999000 → 2 ≤ k →
  ∃ (w : List Nat) (o : Ob), w.length ≤ many ∧ (∀ x ∈ w, x ≤ most) ∧ callN P k "_law_worm" [.loc j, .val (.int many), .val (.int most)] m = some (.ok (.val (dW w)) false (m.set j o)) ∧ WellAt (m.set j o) j (B + many + 1)
theorem set_set {m : Mu} {j : Nat} {o p : Ob} : (m.set j o).set j p = m.set j p := by simp
theorem t_law_worm (fd__law_worm : P.fd "_law_worm" = some f__law_worm) (s__law_draw : S_law_draw P) : S_law_worm P := by
  intro j many most m B k hw h1 h2 hB hk
  obtain ⟨k, rfl, hj⟩ := at_succ hk
  rw [callN_at fd__law_worm _ _ _ rfl]
  obtain ⟨v, o, d1, d2, d3⟩ := draw_app s__law_draw (l := [.lst []]) (n := many + 1) hw (by omega) (by omega) (by omega) hj
  have e1 : ((many + 1 : Nat) : Int) = (many : Int) + 1 := by omega
  have e2 : ((most + 1 : Nat) : Int) = (most : Int) + 1 := by omega
  rw [e1] at d2
  have hr : rngOf [.int (v : Int)] = some (rngL 0 v) := rngOf_1 v (by omega)
  simp -implicitDefEqProofs [f__law_worm, d2, hr]
  have hjl := hw.lt
  refine forE_rng (Q := fun x => ∃ w : List Nat, w.length ≤ many ∧ (∀ x ∈ w, x ≤ most) ∧ ∃ o, fin m.length (seqS x _) = some (R.ok (.val (dW w)) false (m.set j o)) ∧ WellAt (m.set j o) j (B + many + 1)) (lo := 0) (fun i r m' => ∃ (w : List Nat) (o : Ob) (x4 : Option T), w.length = i ∧ (∀ x ∈ w, x ≤ most) ∧ WellAt (m.set j o) j (B + 1 + i) ∧ m' = m.set j o ++ [.lst (w.map fun (n : Nat) => D.int n)] ∧ r = [some (.loc j), some (.val (.int many)), some (.val (.int most)), some (.loc m.length), x4]) v ?_ ?_ _ _ ⟨[], o, none, rfl, by simp, d3, rfl, rfl⟩
  · rintro i r m' hi ⟨w, o, x4, g1, g2, g3, rfl, rfl⟩
    refine ⟨_, rfl, ?_⟩
    obtain ⟨u, o2, d1', d2', d3'⟩ := draw_app s__law_draw (l := [.lst (w.map fun (n : Nat) => D.int n)]) (n := most + 1) g3 (by omega) (by omega) (by omega) hj
    rw [e2, set_set] at d2'
    rw [set_set] at d3'
    have c1 : ∀ o' : Ob, (m.set j o' ++ [Ob.lst (w.map fun (n : Nat) => D.int n)])[m.length]? = some (.lst (w.map fun (n : Nat) => D.int n)) := fun o' => by
      have := get_app (m.set j o') [.lst (w.map fun (n : Nat) => D.int n)]
      simpa using this
    have c2 : ∀ (o' x : Ob), (m.set j o' ++ [Ob.lst (w.map fun (n : Nat) => D.int n)]).set m.length x = m.set j o' ++ [x] := fun o' x => by
      have := set_app (m.set j o') [.lst (w.map fun (n : Nat) => D.int n)] x
      simpa using this
    have hl : w.length < line := by simp [line]; omega
    simp -implicitDefEqProofs [c1, c2, d2', hl]
    exact ⟨w ++ [u], by simp [g1], by
      intro x hx
      rcases List.mem_append.1 hx with hx | hx
      · exact g2 x hx
      · rw [List.mem_singleton.1 hx]; omega, o2, by rw [show B + 1 + (i + 1) = B + 1 + i + 1 by omega]; exact d3', by simp⟩
  · rintro r m' ⟨w, o, x4, g1, g2, g3, rfl, rfl⟩
    refine ⟨w, by omega, g2, o, ?_, g3.mono (by omega)⟩
    have c1 : (m.set j o ++ [Ob.lst (w.map fun (n : Nat) => D.int n)])[m.length]? = some (.lst (w.map fun (n : Nat) => D.int n)) := by
      have := get_app (m.set j o) [.lst (w.map fun (n : Nat) => D.int n)]
      simpa using this
    have c2 : (m.set j o ++ [Ob.lst (w.map fun (n : Nat) => D.int n)]).take m.length = m.set j o := by
      have := take_app (m.set j o) [.lst (w.map fun (n : Nat) => D.int n)]
      simpa using this
    simp -implicitDefEqProofs [c1, c2]
abbrev S_law_whole (P : Pr) := ∀ (n : Nat) (w : List Nat) (k : Nat) (m : Mu), (∀ x ∈ w, x ≤ n + 1) → n ≤ 40 → w.length ≤ 1000 → n + 70 ≤ k → callN P k "_law_whole" [.val (dW w)] m = some (.ok (.val (dL (whole w))) false m)
theorem t_law_whole (fd__law_whole : P.fd "_law_whole" = some f__law_whole) (s__law_order : S_law_order P) (s__law_plus : S_law_plus P) : S_law_whole P := by
  intro n w k m hx hn h hk
  obtain ⟨k, rfl, hj⟩ := at_succ hk
  rw [callN_at fd__law_whole _ _ _ rfl]
  simp -implicitDefEqProofs [f__law_whole]
  refine forE_inv (φ := fun (n : Nat) => D.int n) (Q := fun x => fin _ (seqS x _) = some (R.ok (.val (dL (whole w))) false m)) (fun rem r m' => ∃ F H x3, F ++ cutA H rem = cut w ∧ (∀ x ∈ H, 0 < x) ∧ r = [some (.val (dW w)), some (.loc m.length), some (.loc (m.length + 1)), x3, none, none] ∧ m' = m ++ [.lst (F.map fun p => dW (low p)), .lst ((low H).map fun (n : Nat) => D.int n)] ∧ H.length + rem.length ≤ w.length) ?_ ?_ w _ _ ⟨[], [], none, rfl, by simp, rfl, rfl, by simp⟩
  · rintro x l r m' ⟨F, H, x3, e1, ep, rfl, rfl, e2⟩
    refine ⟨_, rfl, ?_⟩
    have hF : F.length ≤ w.length := by
      have h1 := congrArg List.length e1
      have h2 := cutA_len [] w
      have h3 : 1 ≤ (cutA H (x :: l)).length := by
        have := cutA_ne H (x :: l)
        cases h : cutA H (x :: l) with
        | nil => exact absurd h this
        | cons => simp
      simp only [List.length_append] at h1
      have h4 : (cut w).length = (cutA [] w).length := rfl
      omega
    have hF' : F.length < line := by simp [line]; omega
    have hH' : H.length < line := by simp [line]; simp at e2; omega
    by_cases h0 : x = 0
    · subst h0
      simp -implicitDefEqProofs [hF', others]
      refine ⟨F ++ [H], [], by simpa [cutA] using e1, by simp, by simp, ?_⟩
      simp at e2 ⊢; omega
    · obtain ⟨y, rfl⟩ : ∃ y, x = y + 1 := ⟨x - 1, by omega⟩
      have e9 : ¬ ((y : Int) + 1 = 0) := by omega
      simp -implicitDefEqProofs [hH', e9]
      refine ⟨F, H ++ [y + 1], by simpa [cutA] using e1, ?_, by simp, ?_⟩
      · intro z hz
        rcases List.mem_append.1 hz with hz | hz
        · exact ep z hz
        · rw [List.mem_singleton.1 hz]; omega
      · simp at e2 ⊢; omega
  · rintro r m' ⟨F, H, x3, e1, ep, rfl, rfl, e2⟩
    have hF : F.length + 1 ≤ line := by
      have h1 := congrArg List.length e1
      have h2 := cutA_len [] w
      have h4 : (cut w).length = (cutA [] w).length := rfl
      simp [cutA] at h1
      simp [line]; omega
    rw [cutA] at e1
    have hlen : (cut w).length ≤ w.length + 1 := cutA_len [] w
    have eb := bop_catL (xs := F.map fun p => dW (low p)) (ys := [dW (low H)]) (by simpa using hF)
    have e5 : F.map (fun p => dW (low p)) ++ [dW (low H)] = (cut w).map fun p => dW (low p) := by rw [← e1]; simp
    rw [e5] at eb
    have e6 : (D.tup (List.map ((fun (n : Nat) => D.int n) ∘ fun x => x - 1) H)) = dW (low H) := by simp
    simp -implicitDefEqProofs [e6, eb]
    rw [← List.map_reverse]
    refine forE_inv (φ := fun p => dW (low p)) (Q := fun x => fin _ (seqS x _) = some (R.ok (.val (dL (whole w))) false m)) (fun rem r m' => (∃ l, m' = m ++ l) ∧ ∃ ps x1 x2 x3 x5, ps.reverse ++ rem = (cut w).reverse ∧ r = [some (.val (dW w)), x1, x2, x3, some (.val (dL (fP ps))), x5]) ?_ ?_ _ _ _ ⟨⟨_, rfl⟩, [], _, _, _, none, rfl, rfl⟩
    · rintro p l r m' ⟨⟨ml, rfl⟩, ps, x1, x2, x3, x5, g1, rfl⟩
      refine ⟨_, rfl, ?_⟩
      have hp : p ∈ cut w := by rw [← List.mem_reverse, ← g1]; simp
      have hps : ∀ q ∈ ps, q ∈ cut w := fun q hq => by rw [← List.mem_reverse, ← g1]; simp [hq]
      have hl := low_le hx hp
      have hpl := cut_len_mem hp
      have c1 := s__law_order n (low p) k (m ++ ml) hl (by omega) (by simp; omega) (by omega)
      have hf : ht (Tr.ofL (fP ps)) ≤ n + 2 := fP_ht fun q hq => low_le hx (hps q hq)
      have hlf := fP_len ps
      have hlp : ps.length ≤ w.length + 1 := by
        have := congrArg List.length g1
        simp at this; omega
      have ho := ht_ordF n (low p) hl
      have c2 := s__law_plus (fP ps) [Tr.ofL (ord (low p))] k (m ++ ml) (by omega) (by rw [ht_one]; omega) (by simp [line]; omega) (by omega)
      rw [dL_one] at c2
      simp -implicitDefEqProofs [c1, c2]
      refine ⟨p :: ps, by simpa using g1, ?_⟩
      simp [fP_cons]
    · rintro r m' ⟨⟨ml, rfl⟩, ps, x1, x2, x3, x5, g1, rfl⟩
      rw [List.append_nil] at g1
      have g2 : ps = cut w := by simpa using g1
      subst g2
      simp -implicitDefEqProofs [fP_whole]
end Wk

set_option linter.all false
set_option maxRecDepth 100000
/-! Wk6 -/
namespace Wk
open PM PY Fn Ma
open PySem (Str)
variable {P : Pr}
theorem cmpE_mapD {c : Cz} {elt : E} {a : Option Nat} {r : Rho} {m : Mu} {xs : List D} (ψ : D → D) (i : Nat) (he : ∀ x ∈ xs, ∃ f, ev c elt (r.set i (some (.val x))) m = some (.ok (.val (ψ x)) f m)) (hl : xs.length ≤ line) :
    cmpE c (.one i) [] elt a r xs m = some (.ok (.val (.lst (xs.map ψ))) true m) := by
  have := cmpE_map (c := c) (elt := elt) (a := a) (r := r) (m := m) (l := xs) id ψ i he hl
  rwa [List.map_id] at this
abbrev S_anew (P : Pr) := ∀ (n : Nat) (d : D) (k : Nat) (m : Mu), d.plain = true → d.depth ≤ n → szD d ≤ line → n + 1 ≤ k → ∃ fr, callN P k "anew" [.val d] m = some (.ok (.val d) fr m)
theorem t_anew (fd_anew : P.fd "anew" = some f_anew) : S_anew P := by
  intro n
  induction n with
  | zero =>
    intro d k m h1 h2 h3 hk
    obtain ⟨k, rfl, hj⟩ := at_succ hk
    rw [callN_at fd_anew _ _ _ rfl]
    refine ⟨false, ?_⟩
    cases d <;> simp [D.plain, D.depth] at h1 h2
    all_goals simp -implicitDefEqProofs [f_anew, isiD, tyD, tyOk]
  | succ n ih =>
    intro d k m h1 h2 h3 hk
    obtain ⟨k, rfl, hj⟩ := at_succ hk
    rw [callN_at fd_anew _ _ _ rfl]
    have inner : ∀ xs : List D, plains xs = true → depths xs ≤ n → szDs xs ≤ line → ∀ (r : Rho) (a : Option Nat), r.length = 2 → cmpE ⟨P.g, callN P k⟩ (.one 1) [] (.call "anew" [(.var 1)] [0]) a r xs m = some (.ok (.val (.lst xs)) true m) := by
      intro xs g1 g2 g3 r a hr
      have := cmpE_mapD (c := ⟨P.g, callN P k⟩) (elt := .call "anew" [(.var 1)] [0]) (a := a) (r := r) (m := m) (xs := xs) id 1 (fun x hx => by
        obtain ⟨fr, e⟩ := ih x k m (plain_mem hx g1) (by have := depth_mem hx; omega) (by have := sz_mem hx; omega) hj
        refine ⟨fr, ?_⟩
        obtain ⟨u, v, rfl⟩ : ∃ u v, r = [u, v] := by
          match r, hr with
          | [u, v], _ => exact ⟨u, v, rfl⟩
        simp -implicitDefEqProofs [e]) (by have := len_sz xs; omega)
      rwa [List.map_id] at this
    cases d with
    | lst xs =>
      rw [D.plain] at h1
      rw [D.depth] at h2
      rw [szD] at h3
      refine ⟨true, ?_⟩
      simp -implicitDefEqProofs [f_anew, isiD, tyD, tyOk, inner xs h1 (by omega) (by omega)]
    | tup xs =>
      rw [D.plain] at h1
      rw [D.depth] at h2
      rw [szD] at h3
      refine ⟨false, ?_⟩
      simp -implicitDefEqProofs [f_anew, isiD, tyD, tyOk, inner xs h1 (by omega) (by omega)]
    | _ =>
      refine ⟨false, ?_⟩
      simp [D.plain] at h1
      all_goals simp -implicitDefEqProofs [f_anew, isiD, tyD, tyOk]
/-- what is an ordinal -/
def ordB (d : D) : Bool := decide (0 < cnt d) && decide (cnt d ≤ 400)
/-- values that are handed in -/
structure Okd (d : D) : Prop where
  pl : d.plain = true
  dp : d.depth ≤ 60
  sz : szD d ≤ line
def refuse (c : Str) (d : D) (m : Mu) : Option R := some (.ex (.exc c d) m)
abbrev S_need_ordinalG (P : Pr) := ∀ (d : D) (k : Nat) (m : Mu), Okd d → 64 ≤ k → callN P k "need_ordinal" [.val d] m = if ordB d = true then some (.ok (.val .non) false m) else refuse "InvalidOrdinal" d m
theorem t_need_ordinalG (fd_need_ordinal : P.fd "need_ordinal" = some f_need_ordinal) (s_is_ordinal_in : S_is_ordinal_in P) (s_anew : S_anew P) : S_need_ordinalG P := by
  intro d k m h hk
  obtain ⟨k, rfl, hj⟩ := at_succ hk
  rw [callN_at fd_need_ordinal _ _ _ rfl]
  have e := s_is_ordinal_in d k m h.pl h.dp h.sz (by omega)
  obtain ⟨fr, e2⟩ := s_anew 60 d k m h.pl h.dp h.sz (by omega)
  unfold ordB
  by_cases g : (decide (0 < cnt d) && decide (cnt d ≤ 400)) = true
  · rw [g] at e
    rw [if_pos g]
    simp -implicitDefEqProofs [f_need_ordinal, e]
  · rw [Bool.not_eq_true] at g
    rw [g] at e
    rw [g]
    simp -implicitDefEqProofs [f_need_ordinal, e, e2, refuse]
abbrev S_need_numberG (P : Pr) := ∀ (n a b : Int) (k : Nat) (m : Mu), 1 ≤ k → callN P k "need_number" [.val (.int n), .val (.int a), .val (.int b)] m = if a ≤ n ∧ n ≤ b then some (.ok (.val .non) false m) else refuse "InvalidNumber" (.int n) m
theorem t_need_numberG (fd_need_number : P.fd "need_number" = some f_need_number) : S_need_numberG P := by
  intro n a b k m hk
  obtain ⟨k, rfl, hj⟩ := at_succ hk
  rw [callN_at fd_need_number _ _ _ rfl]
  by_cases h1 : n < a
  · rw [if_neg (by omega)]
    simp -implicitDefEqProofs [f_need_number, h1, refuse]
  · by_cases h2 : b < n
    · rw [if_neg (by omega)]
      simp -implicitDefEqProofs [f_need_number, h1, h2, refuse]
    · rw [if_pos (by omega)]
      simp -implicitDefEqProofs [f_need_number, h1, h2]
abbrev S_need_ordinalsG (P : Pr) := ∀ (a b : D) (k : Nat) (m : Mu), Okd a → Okd b → 65 ≤ k → callN P k "need_ordinals" [.val a, .val b] m = if ordB a = true then (if ordB b = true then some (.ok (.val .non) false m) else refuse "InvalidOrdinal" b m) else refuse "InvalidOrdinal" a m
theorem t_need_ordinalsG (fd_need_ordinals : P.fd "need_ordinals" = some f_need_ordinals) (s_need_ordinal : S_need_ordinalG P) : S_need_ordinalsG P := by
  intro a b k m ha hb hk
  obtain ⟨k, rfl, hj⟩ := at_succ hk
  rw [callN_at fd_need_ordinals _ _ _ rfl]
  have e1 := s_need_ordinal a k m ha hj
  have e2 := s_need_ordinal b k m hb hj
  by_cases g1 : ordB a = true
  · rw [if_pos g1] at e1 ⊢
    by_cases g2 : ordB b = true
    · rw [if_pos g2] at e2 ⊢
      simp -implicitDefEqProofs [f_need_ordinals, e1, e2]
    · rw [if_neg g2] at e2 ⊢
      simp -implicitDefEqProofs [f_need_ordinals, e1, e2, refuse]
  · rw [if_neg g1] at e1 ⊢
    simp -implicitDefEqProofs [f_need_ordinals, e1, refuse]
theorem okd_dT {t : Tr} (h1 : ht t ≤ 59) (h2 : nodes t ≤ line) : Okd (dT t) := ⟨by rw [dT, D.plain, plain_dTs], by rw [dT, D.depth, depth_dTs]; omega, by rw [sz_dT]; exact h2⟩
theorem OrdOk.okd {t : Tr} (h : OrdOk t) : Okd (dT t) := okd_dT h.2.2 (by have := h.2.1; simp [line]; omega)
theorem OrdOk.ordB {t : Tr} (h : OrdOk t) : ordB (dT t) = true := by
  have := nodes_pos t
  simp [Wk.ordB, cnt_nf h.1, this, h.2.1]
/-- a call with two values, refused -/
theorem okd_non : Okd .non := ⟨rfl, by simp [D.depth], by simp [szD]⟩
end Wk

set_option linter.all false
set_option maxRecDepth 100000
/-! Wk7 -/
namespace Wk
open PM PY Fn Ma
open PySem (Str)
variable {P : Pr}
theorem refuse_eq (c : Str) (d : D) (m : Mu) : refuse c d m = some (.ex (.exc c d) m) := rfl
theorem cop_ne_nil (l : List Tr) : cop .NotEq (dL l) (.tup []) = some (!decide (l = [])) := by
  have := cop_ne_dT (Tr.ofL l) .nil (.inr (by simp [ht]))
  rw [dT_ofL] at this
  rw [show (D.tup [] : D) = dT .nil from rfl, this]
  cases l <;> simp [Tr.ofL]
theorem cop_eq_nilT (t : Tr) : cop .Eq (dT t) (.tup []) = some (decide (t = .nil)) := cop_eq_dT t .nil (.inr (by simp [ht]))
theorem cop_ne_nilT (t : Tr) : cop .NotEq (dT t) (.tup []) = some (!decide (t = .nil)) := cop_ne_dT t .nil (.inr (by simp [ht]))
theorem idx_lastL {l : List Tr} (h : l ≠ []) : idxD (dL l) (.int (-1)) = some (dT (l.getLast h)) := by
  obtain ⟨L, z, rfl⟩ : ∃ L z, l = L ++ [z] := ⟨l.dropLast, l.getLast h, (List.dropLast_concat_getLast h).symm⟩
  rw [dL, List.map_append]
  simp
abbrev S_last_in (P : Pr) := ∀ (l : List Tr) (k : Nat) (m : Mu), 1 ≤ k → callN P k "last_in" [.val (dL l)] m = some (.ok (.val (dT (l.getLastD .nil))) false m)
theorem getLastD_ne {l : List Tr} (h : l ≠ []) : l.getLastD .nil = l.getLast h := by
  cases l with
  | nil => exact absurd rfl h
  | cons a l => rw [List.getLastD_cons, List.getLast_eq_getLastD]
theorem t_last_in (fd_last_in : P.fd "last_in" = some f_last_in) (gl_ZERO : P.glob "ZERO" = some (.tup [])) : S_last_in P := by
  intro l k m hk
  obtain ⟨k, rfl, hj⟩ := at_succ hk
  rw [callN_at fd_last_in _ _ _ rfl]
  by_cases h : l = []
  · subst h
    have e := cop_ne_nil []
    simp only [decide_true, Bool.not_true] at e
    simp -implicitDefEqProofs [f_last_in, Pr.g, gl_ZERO, e]
    rfl
  · have e := cop_ne_nil l
    simp only [h, decide_false, Bool.not_false] at e
    rw [getLastD_ne h]
    simp -implicitDefEqProofs [f_last_in, Pr.g, gl_ZERO, e, idx_lastL h]
abbrev S_last (P : Pr) := ∀ (d : D) (k : Nat) (m : Mu), Okd d → 65 ≤ k → (∀ l, d = dL l → ordB d = true → callN P k "last" [.val d] m = some (.ok (.val (dT (l.getLastD .nil))) false m)) ∧ (ordB d = false → callN P k "last" [.val d] m = refuse "InvalidOrdinal" d m)
theorem t_last (fd_last : P.fd "last" = some f_last) (s_need_ordinal : S_need_ordinalG P) (s_last_in : S_last_in P) : S_last P := by
  intro d k m ho hk
  obtain ⟨k, rfl, hj⟩ := at_succ hk
  rw [callN_at fd_last _ _ _ rfl]
  have e := s_need_ordinal d k m ho hj
  refine ⟨fun l hl g => ?_, fun g => ?_⟩
  · subst hl
    rw [if_pos g] at e
    simp -implicitDefEqProofs [f_last, e, s_last_in l k m (by omega)]
  · rw [if_neg (by simp [g])] at e
    simp -implicitDefEqProofs [f_last, e, refuse]
def isNumL (l : List Tr) : Bool := decide (l = []) || decide (l.head? = some .nil)
abbrev S_as_number (P : Pr) := ∀ (d : D) (k : Nat) (m : Mu), Okd d → 65 ≤ k → (∀ l, d = dL l → ordB d = true → callN P k "as_number" [.val d] m = some (.ok (.val (if isNumL l then .int l.length else .non)) false m)) ∧ (ordB d = false → callN P k "as_number" [.val d] m = refuse "InvalidOrdinal" d m)
theorem t_as_number (fd_as_number : P.fd "as_number" = some f_as_number) (s_need_ordinal : S_need_ordinalG P) (s_is_number_in : S_is_number_in P) : S_as_number P := by
  intro d k m ho hk
  obtain ⟨k, rfl, hj⟩ := at_succ hk
  rw [callN_at fd_as_number _ _ _ rfl]
  have e := s_need_ordinal d k m ho hj
  refine ⟨fun l hl g => ?_, fun g => ?_⟩
  · subst hl
    rw [if_pos g] at e
    have e2 := s_is_number_in l k m (by omega)
    cases h : isNumL l with
    | true => rw [isNumL] at h; rw [h] at e2; simp -implicitDefEqProofs [f_as_number, e, e2]
    | false => rw [isNumL] at h; rw [h] at e2; simp -implicitDefEqProofs [f_as_number, e, e2]
  · rw [if_neg (by simp [g])] at e
    simp -implicitDefEqProofs [f_as_number, e, refuse]
/-- how far two rows are alike -/
def lcp : List Tr → List Tr → Nat
  | x :: a, y :: b => if x = y then lcp a b + 1 else 0
  | _, _ => 0
theorem lcp_le : ∀ a b : List Tr, lcp a b ≤ a.length ∧ lcp a b ≤ b.length
  | [], _ => by simp [lcp]
  | _ :: _, [] => by simp [lcp]
  | x :: a, y :: b => by
    have := lcp_le a b
    simp only [lcp, List.length_cons]
    split <;> omega
theorem lcp_at : ∀ (a b : List Tr) (i : Nat), i < lcp a b → a[i]? = b[i]? ∧ i < a.length ∧ i < b.length
  | [], _, i, h => by simp [lcp] at h
  | _ :: _, [], i, h => by simp [lcp] at h
  | x :: a, y :: b, i, h => by
    rw [lcp] at h
    split at h
    · rename_i e
      subst e
      cases i with
      | zero => simp
      | succ i => have := lcp_at a b i (by omega); simpa using this
    · omega
theorem lcp_stop : ∀ (a b : List Tr), lcp a b < a.length → lcp a b < b.length → a[lcp a b]? ≠ b[lcp a b]?
  | [], _, h, _ => by simp at h
  | _ :: _, [], _, h => by simp at h
  | x :: a, y :: b, h1, h2 => by
    rw [lcp] at h1 h2 ⊢
    by_cases e : x = y
    · rw [if_pos e] at h1 h2 ⊢
      have := lcp_stop a b (by simp at h1; omega) (by simp at h2; omega)
      simpa using this
    · rw [if_neg e]
      simpa using e
theorem idx_L {l : List Tr} {i : Nat} (h : i < l.length) : idxD (dL l) (.int i) = some (dT l[i]) := by
  simp [idxD, atD, ixN, h]
theorem cop_gt_dT (a b : Tr) (h : ht a ≤ 63 ∨ ht b ≤ 63) : cop .Gt (dT a) (dT b) = some (Tr.lt b a) := by
  simp only [cop, okCmp_dT a b h, if_true, cmp_dT, Option.map_some, Tr.lt]
  rw [← Tr.cmp_swap b a]; cases Tr.cmp b a <;> rfl
abbrev S_minus_in (P : Pr) := ∀ (a b : List Tr) (k : Nat) (m : Mu), ht (Tr.ofL a) ≤ 59 → ht (Tr.ofL b) ≤ 59 → 1 ≤ k → callN P k "minus_in" [.val (dL a), .val (dL b)] m = some (.ok (.val (if Tr.lt (Tr.ofL a) (Tr.ofL b) then .non else dL (a.drop (lcp b a)))) false m)
theorem lt_len : ∀ (a b : List Tr), Tr.lt (Tr.ofL a) (Tr.ofL b) = false → lcp b a < b.length → lcp b a < a.length
  | a, [], _, h => by simp at h
  | [], y :: b, h, _ => by simp [Tr.ofL, Tr.lt, Tr.cmp] at h
  | x :: a, y :: b, h, g => by
    rw [lcp] at g ⊢
    by_cases e : y = x
    · subst e
      rw [if_pos rfl] at g ⊢
      have := lt_len a b (by
        simp only [Tr.ofL, Tr.lt, Tr.cmp, Tr.cmp_self] at h ⊢
        simpa [Ordering.then] using h) (by simp at g; omega)
      simp; omega
    · rw [if_neg e]; simp
theorem t_minus_in (fd_minus_in : P.fd "minus_in" = some f_minus_in) : S_minus_in P := by
  intro a b k m h1 h2 hk
  obtain ⟨k, rfl, hj⟩ := at_succ hk
  rw [callN_at fd_minus_in _ _ _ rfl]
  have e := cop_gt_dT (Tr.ofL b) (Tr.ofL a) (.inl (by omega))
  rw [dT_ofL, dT_ofL] at e
  cases hlt : Tr.lt (Tr.ofL a) (Tr.ofL b) with
  | true =>
    rw [hlt] at e
    simp -implicitDefEqProofs [f_minus_in, e]
  | false =>
    rw [hlt] at e
    simp -implicitDefEqProofs [f_minus_in, e]
    refine whE_inv (Q := fun x => fin m.length (seqS x _) = some (R.ok (.val (dL (a.drop (lcp b a)))) false m)) (fun n r m' => m' = m ∧ ∃ i : Nat, i + n = lcp b a ∧ r = [some (.val (dL a)), some (.val (dL b)), some (.val (.int i))]) ?_ (lcp b a) _ _ ⟨rfl, 0, by omega, rfl⟩
    rintro n r m' ⟨rfl, i, hi, rfl⟩
    have hle := lcp_le b a
    by_cases hl : i < lcp b a
    · obtain ⟨q1, q2, q3⟩ := lcp_at b a i hl
      have q4 : b[i] = a[i] := by
        rw [List.getElem?_eq_getElem q2, List.getElem?_eq_getElem q3] at q1
        exact Option.some.inj q1
      have q5 := cop_eq_dT b[i] a[i] (.inl (by have := ht_kids_le (l := b) (x := b[i]) (List.getElem_mem q2); omega))
      have q6 : ((i : Nat) : Int) < b.length := by omega
      refine ⟨true, false, m', ?_, fun z => (by cases z), fun _ => ?_⟩
      · rw [q4] at q5
        simp only [decide_true] at q5
        have e7 := idx_L q2
        rw [q4] at e7
        simp -implicitDefEqProofs [q6, e7, idx_L q3, q5]
      · simp -implicitDefEqProofs []
        exact ⟨n - 1, by omega, i + 1, by omega, rfl⟩
    · have hi' : i = lcp b a := by omega
      refine ⟨false, false, m', ?_, fun _ => ?_, fun z => by cases z⟩
      · by_cases q6 : i < b.length
        · have q7 : i < a.length := by rw [hi']; exact lt_len a b hlt (by omega)
          have q8 := lcp_stop b a (by omega) (by omega)
          rw [← hi', List.getElem?_eq_getElem q6, List.getElem?_eq_getElem q7] at q8
          have q9 : ¬ b[i] = a[i] := fun z => q8 (by rw [z])
          have q5 := cop_eq_dT b[i] a[i] (.inl (by have := ht_kids_le (l := b) (x := b[i]) (List.getElem_mem q6); omega))
          rw [decide_eq_false q9] at q5
          have q6' : ((i : Nat) : Int) < b.length := by omega
          simp -implicitDefEqProofs [q6', idx_L q6, idx_L q7, q5]
        · have q6' : ¬ ((i : Nat) : Int) < b.length := by omega
          simp -implicitDefEqProofs [q6']
      · have e9 := slc_from (a.map dT) i
        rw [← hi']
        simp -implicitDefEqProofs [e9]
end Wk

set_option linter.all false
set_option maxRecDepth 100000
/-! Wk8 -/
namespace Wk
open PM PY Fn Ma
open PySem (Str)
variable {P : Pr}
theorem dL_inj {a b : List Tr} (h : dL a = dL b) : a = b := by
  rw [dL_dT, dL_dT] at h
  have := congrArg toTr h
  rw [toTr_dT, toTr_dT] at this
  exact Tr.ofL_inj (Option.some.inj this)
theorem ordB_L {l : List Tr} (h : ordB (dL l) = true) (hd : Okd (dL l)) : OrdOk (Tr.ofL l) := by
  unfold ordB at h
  simp only [Bool.and_eq_true, decide_eq_true_eq] at h
  rw [dL_dT] at h hd
  obtain ⟨t, e1, e2, e3⟩ := cnt_pos (d := dT (Tr.ofL l)) (by omega)
  have e4 := congrArg toTr e1
  rw [toTr_dT, toTr_dT] at e4
  have e5 := Option.some.inj e4
  subst e5
  refine ⟨e2, by omega, ?_⟩
  have := hd.dp
  rw [dT, D.depth, depth_dTs] at this
  omega
abbrev S_plusX (P : Pr) := ∀ (a b : D) (k : Nat) (m : Mu), Okd a → Okd b → (ordB a && ordB b) = false → 66 ≤ k → callN P k "plus" [.val a, .val b] m = refuse "InvalidOrdinal" (if ordB a = true then b else a) m
theorem t_plusX (fd_plus : P.fd "plus" = some f_plus) (s_need : S_need_ordinalsG P) : S_plusX P := by
  intro a b k m ha hb h hk
  obtain ⟨k, rfl, hj⟩ := at_succ hk
  rw [callN_at fd_plus _ _ _ rfl]
  have e := s_need a b k m ha hb hj
  by_cases g1 : ordB a = true
  · have g2 : ordB b = false := by rw [g1] at h; simpa using h
    rw [if_pos g1, g2] at e
    rw [if_pos g1]
    simp -implicitDefEqProofs [f_plus, e, refuse]
  · rw [if_neg g1] at e ⊢
    simp -implicitDefEqProofs [f_plus, e, refuse]
abbrev S_minusX (P : Pr) := ∀ (a b : D) (k : Nat) (m : Mu), Okd a → Okd b → (ordB a && ordB b) = false → 66 ≤ k → callN P k "minus" [.val a, .val b] m = refuse "InvalidOrdinal" (if ordB a = true then b else a) m
theorem t_minusX (fd_minus : P.fd "minus" = some f_minus) (s_need : S_need_ordinalsG P) : S_minusX P := by
  intro a b k m ha hb h hk
  obtain ⟨k, rfl, hj⟩ := at_succ hk
  rw [callN_at fd_minus _ _ _ rfl]
  have e := s_need a b k m ha hb hj
  by_cases g1 : ordB a = true
  · have g2 : ordB b = false := by rw [g1] at h; simpa using h
    rw [if_pos g1, g2] at e
    rw [if_pos g1]
    simp -implicitDefEqProofs [f_minus, e, refuse]
  · rw [if_neg g1] at e ⊢
    simp -implicitDefEqProofs [f_minus, e, refuse]
abbrev S_minus (P : Pr) := ∀ (a b : List Tr) (k : Nat) (m : Mu), OrdOk (Tr.ofL a) → OrdOk (Tr.ofL b) → 66 ≤ k → callN P k "minus" [.val (dL a), .val (dL b)] m = some (.ok (.val (if Tr.lt (Tr.ofL a) (Tr.ofL b) then .non else dL (a.drop (lcp b a)))) false m)
theorem t_minus (fd_minus : P.fd "minus" = some f_minus) (s_need : S_need_ordinalsG P) (s_minus_in : S_minus_in P) : S_minus P := by
  intro a b k m ha hb hk
  obtain ⟨k, rfl, hj⟩ := at_succ hk
  rw [callN_at fd_minus _ _ _ rfl]
  have e := s_need (dT (Tr.ofL a)) (dT (Tr.ofL b)) k m ha.okd hb.okd hj
  rw [if_pos ha.ordB, if_pos hb.ordB, dT_ofL, dT_ofL] at e
  simp -implicitDefEqProofs [f_minus, e, s_minus_in a b k m ha.2.2 hb.2.2 (by omega)]
abbrev S_is_ordinal (P : Pr) := ∀ (d : D) (k : Nat) (m : Mu), Okd d → 64 ≤ k → callN P k "is_ordinal" [.val d] m = some (.ok (.val (.bl (ordB d))) false m)
theorem t_is_ordinal (fd_is_ordinal : P.fd "is_ordinal" = some f_is_ordinal) (s_is_ordinal_in : S_is_ordinal_in P) : S_is_ordinal P := by
  intro d k m h hk
  obtain ⟨k, rfl, hj⟩ := at_succ hk
  rw [callN_at fd_is_ordinal _ _ _ rfl]
  simp -implicitDefEqProofs [f_is_ordinal, s_is_ordinal_in d k m h.pl h.dp h.sz (by omega), ordB]
def kindS (l : List Tr) : Str := if l = [] then "zero" else if l.getLastD .nil = .nil then "successor" else "limit"
abbrev S_kind_of (P : Pr) := ∀ (d : D) (k : Nat) (m : Mu), Okd d → 65 ≤ k → (∀ l, d = dL l → ordB d = true → callN P k "kind_of" [.val d] m = some (.ok (.val (.str (kindS l))) false m)) ∧ (ordB d = false → callN P k "kind_of" [.val d] m = refuse "InvalidOrdinal" d m)
theorem t_kind_of (fd_kind_of : P.fd "kind_of" = some f_kind_of) (s_need_ordinal : S_need_ordinalG P) : S_kind_of P := by
  intro d k m ho hk
  obtain ⟨k, rfl, hj⟩ := at_succ hk
  rw [callN_at fd_kind_of _ _ _ rfl]
  have e := s_need_ordinal d k m ho hj
  refine ⟨fun l hl g => ?_, fun g => ?_⟩
  · subst hl
    rw [if_pos g] at e
    have e2 := cop_eq_nil l
    by_cases h : l = []
    · rw [decide_eq_true h] at e2
      have hk : kindS l = "zero" := by rw [kindS, if_pos h]
      rw [hk]
      simp -implicitDefEqProofs [f_kind_of, e, e2]
    · rw [decide_eq_false h] at e2
      have e3 := cop_eq_nilT (l.getLast h)
      have e4 := getLastD_ne h
      by_cases h2 : l.getLast h = .nil
      · rw [decide_eq_true h2] at e3
        have hk : kindS l = "successor" := by rw [kindS, if_neg h, if_pos (by rw [e4, h2])]
        rw [hk]
        simp -implicitDefEqProofs [f_kind_of, e, e2, idx_lastL h, e3]
      · rw [decide_eq_false h2] at e3
        have hk : kindS l = "limit" := by rw [kindS, if_neg h, if_neg (by rw [e4]; exact h2)]
        rw [hk]
        simp -implicitDefEqProofs [f_kind_of, e, e2, idx_lastL h, e3]
  · rw [if_neg (by simp [g])] at e
    simp -implicitDefEqProofs [f_kind_of, e, refuse]
abbrev S_towardX (P : Pr) := ∀ (d : D) (k : Nat) (m : Mu), Okd d → 65 ≤ k → (∀ n : Int, ordB d = true → ¬ (0 ≤ n ∧ n ≤ 20) → callN P k "toward" [.val d, .val (.int n)] m = refuse "InvalidNumber" (.int n) m) ∧ (∀ x : D, ordB d = false → callN P k "toward" [.val d, .val x] m = refuse "InvalidOrdinal" d m)
theorem t_towardX (fd_toward : P.fd "toward" = some f_toward) (s_need_ordinal : S_need_ordinalG P) (s_need_number : S_need_numberG P) (gl_MOST_TOWARD : P.glob "MOST_TOWARD" = some (.int 20)) : S_towardX P := by
  intro d k m ho hk
  obtain ⟨k, rfl, hj⟩ := at_succ hk
  refine ⟨fun n g h => ?_, fun x g => ?_⟩
  · rw [callN_at fd_toward _ _ _ rfl]
    have e := s_need_ordinal d k m ho hj
    rw [if_pos g] at e
    have e2 := s_need_number n 0 20 k m (by omega)
    rw [if_neg h] at e2
    simp -implicitDefEqProofs [f_toward, e, e2, refuse, Pr.g, gl_MOST_TOWARD]
  · rw [callN_at fd_toward _ _ _ rfl]
    have e := s_need_ordinal d k m ho hj
    rw [if_neg (by simp [g])] at e
    simp -implicitDefEqProofs [f_toward, e, refuse]
abbrev S_numberX (P : Pr) := ∀ (n : Int) (k : Nat) (m : Mu), ¬ (0 ≤ n ∧ n ≤ 399) → 2 ≤ k → callN P k "number" [.val (.int n)] m = refuse "InvalidNumber" (.int n) m
theorem t_numberX (fd_number : P.fd "number" = some f_number) (s_need_number : S_need_numberG P) (gl_MOST_NUMBER : P.glob "MOST_NUMBER" = some (.int 399)) : S_numberX P := by
  intro n k m h hk
  obtain ⟨k, rfl, hj⟩ := at_succ hk
  rw [callN_at fd_number _ _ _ rfl]
  have e2 := s_need_number n 0 399 k m (by omega)
  rw [if_neg h] at e2
  simp -implicitDefEqProofs [f_number, e2, refuse, Pr.g, gl_MOST_NUMBER]
end Wk

set_option linter.all false
set_option maxRecDepth 100000
/-! Wl4 -/
namespace Wk
open PM PY Fn Ma
open PySem (Str)
variable {P : Pr}
/-- put in its place among falling ones -/
def ins (f : List Tr) (x : Tr) : List Tr := f.takeWhile (fun y => !Tr.lt y x) ++ x :: f.dropWhile (fun y => !Tr.lt y x)
theorem ins_mem (f : List Tr) (x y : Tr) (h : y ∈ ins f x) : y = x ∨ y ∈ f := by
  rw [ins] at h
  rcases List.mem_append.1 h with h | h
  · exact .inr (List.takeWhile_subset _ h)
  · rcases List.mem_cons.1 h with h | h
    · exact .inl h
    · exact .inr (List.dropWhile_subset _ h)
theorem ins_sum (f : List Tr) (x : Tr) : sumN (ins f x) = sumN f + nodes x := by
  have : sumN f = sumN (f.takeWhile (fun y => !Tr.lt y x)) + sumN (f.dropWhile (fun y => !Tr.lt y x)) := by
    rw [← sumN_append, List.takeWhile_append_dropWhile]
  rw [ins, sumN_append, this]
  simp only [sumN, List.map_cons, List.sum_cons]
  omega
theorem ins_desc : ∀ {f : List Tr} (x : Tr), desc f → desc (ins f x)
  | [], x, _ => desc_one x
  | y :: f, x, h => by
    have h1 := List.pairwise_cons.1 h
    cases g : Tr.lt y x with
    | true =>
      have e : ins (y :: f) x = x :: y :: f := by simp [ins, g]
      rw [e]
      have gl : Tr.le y x = true := by
        have := Tr.lt_not_le y x
        rw [g] at this
        rcases Tr.le_total y x with h2 | h2
        · exact h2
        · rw [h2] at this; cases this
      refine List.pairwise_cons.2 ⟨fun z hz => ?_, h⟩
      rcases List.mem_cons.1 hz with rfl | hz
      · exact gl
      · exact Tr.le_trans (h1.1 z hz) gl
    | false =>
      have e : ins (y :: f) x = y :: ins f x := by simp [ins, g]
      rw [e]
      refine List.pairwise_cons.2 ⟨fun z hz => ?_, ins_desc x h1.2⟩
      rcases ins_mem f x z hz with rfl | hz
      · have := Tr.lt_not_le y z
        rw [g] at this
        simpa using this.symm
      · exact h1.1 z hz
abbrev S_law_put (P : Pr) := ∀ (j : Nat) (l : List Tr) (k : Nat) (m : Mu), m[j]? = some (.lst (l.map dT)) → (∀ x ∈ l, ht x ≤ 60) → l.length ≤ 1000 → 62 ≤ k → callN P k "_law_put" [.loc j] m = some (.ok (.val (dL (l.foldl ins []))) false m)
theorem ins_len (f : List Tr) (x : Tr) : (ins f x).length = f.length + 1 := by
  have h : (f.takeWhile (fun y => !Tr.lt y x)).length + (f.dropWhile (fun y => !Tr.lt y x)).length = f.length := by
    rw [← List.length_append, List.takeWhile_append_dropWhile]
  simp only [ins, List.length_append, List.length_cons]; omega
theorem idx_Lst {l : List Tr} {i : Nat} (h : i < l.length) : idxD (.lst (l.map dT)) (.int i) = some (dT l[i]) := by
  simp [idxD, atD, ixN, h]
theorem slc_toL (xs : List D) (i : Nat) : slcB false true (.lst xs) [.int i] = some (.lst (xs.take i), true) := by
  simp [slcB, slcD, sx, cutL]
  rw [if_neg (by omega)]
  rcases Nat.le_total i xs.length with h | h
  · rw [Nat.min_eq_left h, Nat.min_eq_left h]
  · rw [Nat.min_eq_right h]; simp [List.take_of_length_le h]
theorem slc_fromL (xs : List D) (i : Nat) : slcB true false (.lst xs) [.int i] = some (.lst (xs.drop i), true) := by
  simp [slcB, slcD, sx, cutL]
  rw [if_neg (by omega)]
  rcases Nat.le_total i xs.length with h | h
  · rw [Nat.min_eq_left h, List.take_of_length_le (by simp)]
  · rw [Nat.min_eq_right h]; simp [List.drop_of_length_le h]
theorem take_while_at {α : Type} (p : α → Bool) : ∀ (l : List α) (i : Nat), i ≤ (l.takeWhile p).length → (i < (l.takeWhile p).length → ∃ h : i < l.length, p l[i] = true) ∧ (i = (l.takeWhile p).length → ∀ h : i < l.length, p l[i] = false) ∧ l.take (l.takeWhile p).length = l.takeWhile p ∧ l.drop (l.takeWhile p).length = l.dropWhile p
  | [], i, h => by simp at h; subst h; simp
  | x :: l, i, h => by
    by_cases g : p x = true
    · rw [List.takeWhile_cons_of_pos g, List.dropWhile_cons_of_pos g] at *
      simp only [List.length_cons] at h
      cases i with
      | zero =>
        have := take_while_at p l 0 (by omega)
        refine ⟨fun _ => ⟨by simp, g⟩, fun e => by simp at e, ?_, ?_⟩
        · simp [this.2.2.1]
        · simpa using this.2.2.2
      | succ i =>
        have := take_while_at p l i (by omega)
        refine ⟨fun h2 => ?_, fun e h2 => ?_, ?_, ?_⟩
        · obtain ⟨h3, h4⟩ := this.1 (by simp at h2; omega)
          exact ⟨by simp; omega, by simpa using h4⟩
        · have := this.2.1 (by simp at e; omega) (by simp at h2; omega)
          simpa using this
        · simp [this.2.2.1]
        · simpa using this.2.2.2
    · rw [List.takeWhile_cons_of_neg g, List.dropWhile_cons_of_neg g] at *
      simp at h
      subst h
      refine ⟨fun h2 => by simp at h2, fun _ _ => by simpa using g, rfl, rfl⟩
theorem t_law_put (fd__law_put : P.fd "_law_put" = some f__law_put) (s__law_less : S_law_less P) : S_law_put P := by
  intro j l k m hm hh hl hk
  obtain ⟨k, rfl, hj⟩ := at_succ hk
  rw [callN_at fd__law_put _ _ _ rfl]
  simp -implicitDefEqProofs [f__law_put, iterOf_loc m hm]
  refine forE_inv (φ := dT) (Q := fun x => fin m.length (seqS x _) = some (R.ok (.val (dL (l.foldl ins []))) false m)) (fun rem r m' => m' = m ∧ ∃ pre x2 x3, pre ++ rem = l ∧ r = [some (.loc j), some (.val (.lst ((pre.foldl ins []).map dT))), x2, x3] ∧ (pre.foldl ins []).length = pre.length ∧ (∀ x ∈ pre.foldl ins [], x ∈ l)) ?_ ?_ _ _ _ ⟨rfl, [], none, none, rfl, rfl, rfl, by simp⟩
  · rintro x rem r m' ⟨rfl, pre, x2, x3, e1, rfl, e2, e3⟩
    refine ⟨_, rfl, ?_⟩
    have hx : x ∈ l := by rw [← e1]; simp
    have hpl : pre.length + 1 ≤ l.length := by rw [← e1]; simp
    generalize hf : pre.foldl ins [] = f at *
    simp -implicitDefEqProofs []
    refine whE_inv (Q := fun y => outF (seqS y _) _ _) (fun n r m'' => m'' = m' ∧ ∃ i : Nat, i + n = (f.takeWhile (fun y => !Tr.lt y x)).length ∧ r = [some (.loc j), some (.val (.lst (f.map dT))), some (.val (dT x)), some (.val (.int i))]) ?_ _ _ _ ⟨rfl, 0, Nat.zero_add _, rfl⟩
    rintro n r m'' ⟨rfl, i, hi, rfl⟩
    obtain ⟨w1, w2, w3, w4⟩ := take_while_at (fun y => !Tr.lt y x) f i (by omega)
    by_cases hlt : i < (f.takeWhile (fun y => !Tr.lt y x)).length
    · obtain ⟨h1, h2⟩ := w1 hlt
      have h3 : Tr.lt f[i] x = false := by simpa using h2
      have h4 := s__law_less 60 f[i] x k m'' (hh _ (e3 _ (List.getElem_mem h1))) (hh _ hx) hj
      rw [h3] at h4
      have h5 : ((i : Nat) : Int) < f.length := by omega
      refine ⟨true, false, m'', ?_, fun z => (by cases z), fun _ => ?_⟩
      · simp -implicitDefEqProofs [h5, idx_Lst h1, h4]
      · simp -implicitDefEqProofs []
        exact ⟨n - 1, by omega, i + 1, by omega, rfl⟩
    · have hi2 : i = (f.takeWhile (fun y => !Tr.lt y x)).length := by omega
      refine ⟨false, false, m'', ?_, fun _ => ?_, fun z => by cases z⟩
      · by_cases h1 : i < f.length
        · have h3 : Tr.lt f[i] x = true := by simpa using w2 hi2 h1
          have h4 := s__law_less 60 f[i] x k m'' (hh _ (e3 _ (List.getElem_mem h1))) (hh _ hx) hj
          rw [h3] at h4
          have h5 : ((i : Nat) : Int) < f.length := by omega
          simp -implicitDefEqProofs [h5, idx_Lst h1, h4]
        · have h5 : ¬ ((i : Nat) : Int) < f.length := by omega
          simp -implicitDefEqProofs [h5]
      · have s1 := slc_toL (f.map dT) i
        have s2 := slc_fromL (f.map dT) i
        rw [← List.map_take, hi2, w3] at s1
        rw [← List.map_drop, hi2, w4] at s2
        have hfl : f.length ≤ 1000 := by omega
        have l0 : (f.takeWhile (fun y => !Tr.lt y x)).length + (f.dropWhile (fun y => !Tr.lt y x)).length = f.length := by rw [← List.length_append, List.takeWhile_append_dropWhile]
        have b1 := bop_catL (xs := (f.takeWhile (fun y => !Tr.lt y x)).map dT) (ys := [dT x]) (by simp [line]; omega)
        have b2 := bop_catL (xs := (f.takeWhile (fun y => !Tr.lt y x)).map dT ++ [dT x]) (ys := (f.dropWhile (fun y => !Tr.lt y x)).map dT) (by simp [line]; omega)
        have eI : (f.takeWhile (fun y => !Tr.lt y x)).map dT ++ [dT x] ++ (f.dropWhile (fun y => !Tr.lt y x)).map dT = (ins f x).map dT := by simp [ins]
        rw [eI] at b2
        rw [← hi2] at s1 s2
        simp -implicitDefEqProofs [s1, s2, b1, b2]
        refine ⟨still_self _ _, pre ++ [x], by simpa using e1, ?_, ?_, ?_⟩
        · rw [List.foldl_append, hf]; rfl
        · rw [List.foldl_append, hf]; simp [ins_len, e2]
        · intro y hy
          rw [List.foldl_append, hf] at hy
          rcases ins_mem f x y hy with rfl | h
          · exact hx
          · exact e3 y h
  · rintro r m' ⟨rfl, pre, x2, x3, e1, rfl, e2, e3⟩
    rw [List.append_nil] at e1
    subst e1
    simp -implicitDefEqProofs []
end Wk

set_option linter.all false
set_option maxRecDepth 100000
/-! Wl5 -/
namespace Wk
open PM PY Fn Ma
open PySem (Str)
variable {P : Pr}
def Nn : Nat → Nat | 0 => 10 | d + 1 => 1 + 3 * Nn d
def cc : Nat → Nat | 0 => 4 | d + 1 => 4 + 3 * cc d
theorem Nn_ge (d : Nat) : 10 ≤ Nn d := by induction d with | zero => decide | succ d ih => simp only [Nn]; omega
theorem cc_ge (d : Nat) : 4 ≤ cc d := by induction d with | zero => decide | succ d ih => simp only [cc]; omega
/-- what is drawn -/
structure Dr (d : Nat) (t : Tr) : Prop where
  nf : nf t
  ht : ht t ≤ d + 2
  nodes : nodes t ≤ Nn d
abbrev S_law_ordinal (P : Pr) := ∀ (d j : Nat) (m : Mu) (B k : Nat), d ≤ 5 → WellAt m j B → B + cc d ≤ 900000 → d + 70 ≤ k →
  ∃ (t : Tr) (o : Ob), Dr d t ∧ callN P k "_law_ordinal" [.loc j, .val (.int d)] m = some (.ok (.val (dT t)) false (m.set j o)) ∧ WellAt (m.set j o) j (B + cc d)
/-- an exponent that is drawn -/
structure El (d : Nat) (t : Tr) : Prop where
  nf : nf t
  ht : ht t ≤ d + 1
  nodes : 3 * nodes t + 1 ≤ Nn d
theorem el_num (d n : Nat) (h : n ≤ 2) : El d (Tr.ofL (List.replicate n .nil)) := by
  refine ⟨nf_iff.2 ⟨List.pairwise_replicate.2 (.inr (Tr.le_refl _)), fun x hx => by rw [(List.mem_replicate.1 hx).2]; trivial⟩, ?_, ?_⟩
  · refine ht_ofL fun x hx => ?_
    rw [(List.mem_replicate.1 hx).2]; simp [Ma.ht]
  · rw [nodes_ofL, sumN_zero]; have := Nn_ge d; omega
theorem dr_of {d : Nat} {l : List Tr} (h : ∀ x ∈ l, El d x) (hl : l.length ≤ 3) : Dr d (Tr.ofL (l.foldl ins [])) := by
  have h1 : ∀ (l f : List Tr), desc f → desc (l.foldl ins f) := by
    intro l
    induction l with
    | nil => intro f h; exact h
    | cons x l ih => intro f h; exact ih _ (ins_desc x h)
  have h2 : ∀ (l f : List Tr) (y : Tr), y ∈ l.foldl ins f → y ∈ l ∨ y ∈ f := by
    intro l
    induction l with
    | nil => intro f y h; exact .inr h
    | cons x l ih =>
      intro f y h
      rcases ih _ y h with h | h
      · exact .inl (.tail _ h)
      · rcases ins_mem f x y h with rfl | h
        · exact .inl (.head _)
        · exact .inr h
  have h3 : ∀ (l f : List Tr), sumN (l.foldl ins f) = sumN f + sumN l := by
    intro l
    induction l with
    | nil => intro f; simp [sumN]
    | cons x l ih =>
      intro f
      rw [List.foldl_cons, ih, ins_sum]
      simp only [sumN, List.map_cons, List.sum_cons]; omega
  have hm : ∀ y ∈ l.foldl ins [], El d y := fun y hy => by
    rcases h2 l [] y hy with h' | h'
    · exact h y h'
    · cases h'
  refine ⟨nf_iff.2 ⟨h1 l [] .nil, fun x hx => (hm x hx).nf⟩, ht_ofL fun x hx => by have := (hm x hx).ht; omega, ?_⟩
  rw [nodes_ofL, h3]
  have h4 : 3 * sumN l + l.length ≤ l.length * Nn d := by
    clear hm hl
    induction l with
    | nil => simp [sumN]
    | cons x l ih =>
      have := ih (fun y hy => h y (.tail _ hy))
      have := (h x (.head _)).nodes
      simp only [sumN, List.map_cons, List.sum_cons, List.length_cons, Nat.add_mul] at *
      omega
  have h5 : l.length * Nn d ≤ 3 * Nn d := Nat.mul_le_mul_right _ hl
  have h6 := Nn_ge d
  have e0 : sumN ([] : List Tr) = 0 := rfl
  rw [e0]
  have h7 : l.length = 0 → sumN l = 0 := fun e => by rw [List.eq_nil_of_length_eq_zero e]; rfl
  omega
def elO : E := (.ife (.and (.cmp .Gt (.var 1) (.con (.int 0))) (.cmp .Eq (.call "_law_draw" [(.var 0), (.con (.int 2))] [0, 1]) (.con (.int 0)))) (.call "_law_ordinal" [(.var 0), (.bin .Sub (.var 1) (.con (.int 1)))] [0, 1]) (.bin .Mult (.tup [(.tup [])]) (.call "_law_draw" [(.var 0), (.con (.int 3))] [0, 1])))
def ce : Nat → Nat | 0 => 1 | d + 1 => 1 + cc d
theorem cc_ce (d : Nat) : cc d = 1 + 3 * ce d := by cases d <;> simp only [cc, ce] <;> omega
theorem law_ordinal_of (fd__law_ordinal : P.fd "_law_ordinal" = some f__law_ordinal) (s__law_draw : S_law_draw P) (s__law_put : S_law_put P) (d j : Nat) (m : Mu) (B k : Nat) (hd : d ≤ 5) (hw : WellAt m j B) (hB : B + cc d ≤ 900000) (hk : d + 69 ≤ k)
    (hel : ∀ (o : Ob) (F : List D) (x4 : T) (B' : Nat), WellAt (m.set j o) j B' → B' + ce d ≤ 900000 → ∃ (x : Tr) (o' : Ob), El d x ∧ ev ⟨P.g, callN P k⟩ elO [some (.loc j), some (.val (.int d)), some (.loc m.length), some x4] (m.set j o ++ [.lst F]) = some (.ok (.val (dT x)) false (m.set j o' ++ [.lst F])) ∧ WellAt (m.set j o') j (B' + ce d)) :
    ∃ (t : Tr) (o : Ob), Dr d t ∧ callN P (k + 1) "_law_ordinal" [.loc j, .val (.int d)] m = some (.ok (.val (dT t)) false (m.set j o)) ∧ WellAt (m.set j o) j (B + cc d) := by
  rw [callN_at fd__law_ordinal _ _ _ rfl]
  have hbody : f__law_ordinal.body = [(.cell 2 (.lst [])), (.for (.one 3) (.rng [(.call "_law_draw" [(.var 0), (.con (.int 4))] [0, 1])]) [(.app 2 elO)]), (.ret (.call "_law_put" [(.var 2)] [0]))] := rfl
  have hnv : f__law_ordinal.nv = 4 := rfl
  have hps : f__law_ordinal.ps = [("well" : Str), "deep"] := rfl
  rw [hbody, hnv, hps]
  obtain ⟨v, o, d1, d2, d3⟩ := draw_app s__law_draw (l := [.lst []]) (n := 4) (k := k) hw (by omega) (by omega) (by omega) (by omega)
  simp only [Int.cast_ofNat_Int] at d2
  have hr : rngOf [.int (v : Int)] = some (rngL 0 v) := rngOf_1 v (by omega)
  have hjl := hw.lt
  have hce := cc_ce d
  simp -implicitDefEqProofs [d2, hr]
  refine forE_rng (Q := fun x => ∃ t, Dr d t ∧ ∃ o, fin m.length (seqS x _) = some (R.ok (.val (dT t)) false (m.set j o)) ∧ WellAt (m.set j o) j (B + cc d)) (lo := 0) (fun i r m' => ∃ (l : List Tr) (o : Ob) (x4 : Option T), l.length = i ∧ (∀ x ∈ l, El d x) ∧ WellAt (m.set j o) j (B + 1 + i * ce d) ∧ m' = m.set j o ++ [.lst (l.map dT)] ∧ r = [some (.loc j), some (.val (.int d)), some (.loc m.length), x4]) v ?_ ?_ _ _ ⟨[], o, none, rfl, by simp, by simpa using d3, rfl, rfl⟩
  · rintro i r m' hi ⟨l, o, x4, g1, g2, g3, rfl, rfl⟩
    refine ⟨_, rfl, ?_⟩
    have hmul : (i + 1) * ce d = i * ce d + ce d := by rw [Nat.add_mul]; omega
    have hmul2 : (i + 1) * ce d ≤ 3 * ce d := Nat.mul_le_mul_right _ (by omega)
    obtain ⟨x, o2, e1, e2, e3⟩ := hel o (l.map dT) (.val (.int (0 + (i : Int)))) (B + 1 + i * ce d) g3 (by omega)
    have c1 : ∀ o' : Ob, (m.set j o' ++ [Ob.lst (l.map dT)])[m.length]? = some (.lst (l.map dT)) := fun o' => by
      have := get_app (m.set j o') [Ob.lst (l.map dT)]
      simpa using this
    have c2 : ∀ (o' y : Ob), (m.set j o' ++ [Ob.lst (l.map dT)]).set m.length y = m.set j o' ++ [y] := fun o' y => by
      have := set_app (m.set j o') [Ob.lst (l.map dT)] y
      simpa using this
    have hl : l.length < line := by simp [line]; omega
    simp only [Int.zero_add] at e2
    simp -implicitDefEqProofs [c1, c2, e2, hl]
    refine ⟨l ++ [x], by simp [g1], ?_, o2, ?_, by simp⟩
    · intro y hy
      rcases List.mem_append.1 hy with hy | hy
      · exact g2 y hy
      · rw [List.mem_singleton.1 hy]; exact e1
    · rw [hmul, ← Nat.add_assoc]; exact e3
  · rintro r m' ⟨l, o, x4, g1, g2, g3, rfl, rfl⟩
    have hmul2 : v * ce d ≤ 3 * ce d := Nat.mul_le_mul_right _ (by omega)
    have hdr := dr_of (d := d) g2 (by omega)
    have c1 : (m.set j o ++ [Ob.lst (l.map dT)])[m.length]? = some (.lst (l.map dT)) := by
      have := get_app (m.set j o) [Ob.lst (l.map dT)]
      simpa using this
    have p1 := s__law_put m.length l k (m.set j o ++ [.lst (l.map dT)]) c1 (fun x hx => by have := (g2 x hx).ht; omega) (by omega) (by omega)
    rw [dL_dT] at p1
    have c2 : (m.set j o ++ [Ob.lst (l.map dT)]).take m.length = m.set j o := by
      have := take_app (m.set j o) [Ob.lst (l.map dT)]
      simpa using this
    refine ⟨_, hdr, o, ?_, g3.mono (by omega)⟩
    simp -implicitDefEqProofs [p1, c2]
theorem t_law_ordinal (fd__law_ordinal : P.fd "_law_ordinal" = some f__law_ordinal) (s__law_draw : S_law_draw P) (s__law_put : S_law_put P) : S_law_ordinal P := by
  have num : ∀ (d j n : Nat) (m : Mu) (k : Nat) (o : Ob) (F : List D) (x4 : T) (B' : Nat), WellAt (m.set j o) j B' → B' ≤ 900000 → 1 ≤ k → j < m.length → ∃ (x : Tr) (o' : Ob), El d x ∧ ev ⟨P.g, callN P k⟩ (.bin .Mult (.tup [(.tup [])]) (.call "_law_draw" [(.var 0), (.con (.int 3))] [0, 1])) [some (.loc j), some (.val (.int n)), some (.loc m.length), some x4] (m.set j o ++ [.lst F]) = some (.ok (.val (dT x)) false (m.set j o' ++ [.lst F])) ∧ WellAt (m.set j o') j (B' + 1) := by
    intro d j n m k o F x4 B' g gB hk hj
    obtain ⟨v, o2, d1, d2, d3⟩ := draw_app s__law_draw (l := [.lst F]) (n := 3) (k := k) g (by omega) (by omega) (by omega) hk
    simp only [Int.cast_ofNat_Int, set_set] at d2 d3
    refine ⟨_, o2, el_num d v (by omega), ?_, d3⟩
    have b1 := bop_rep (x := .tup []) (n := (v : Int)) (by omega) (by omega)
    have e : D.tup (List.replicate v (.tup [])) = dT (Tr.ofL (List.replicate v .nil)) := by rw [dT_ofL, dL, List.map_replicate]; rfl
    simp only [Int.toNat_natCast, e] at b1
    simp -implicitDefEqProofs [d2, b1]
  intro d
  induction d with
  | zero =>
    intro j m B k hd hw hB hk
    obtain ⟨k, rfl, hj⟩ := at_succ hk
    refine law_ordinal_of fd__law_ordinal s__law_draw s__law_put 0 j m B k hd hw hB (by omega) fun o F x4 B' g gB => ?_
    obtain ⟨x, o', e1, e2, e3⟩ := num 0 j 0 m k o F x4 B' g (by omega) (by omega) hw.lt
    refine ⟨x, o', e1, ?_, e3⟩
    rw [elO, ev_ife]
    simp only [Int.natCast_zero] at e2 ⊢
    simp -implicitDefEqProofs only [ev_and, ev_cmp, ev_var, ev_con, getV_zero, getV_succ, Option.map_some, bnq_ok, rd_val, obq_some, cop_gt, vl_eq, truth_bl]
    simp -implicitDefEqProofs only [Int.lt_irrefl, decide_false, sel_false, bnq_ok, rd_val, obq_some, truth_bl, two_false]
    exact e2
  | succ d ih =>
    intro j m B k hd hw hB hk
    obtain ⟨k, rfl, hj⟩ := at_succ hk
    refine law_ordinal_of fd__law_ordinal s__law_draw s__law_put (d + 1) j m B k hd hw hB (by omega) fun o F x4 B' g gB => ?_
    have hjl := hw.lt
    obtain ⟨v, o1, d1, d2, d3⟩ := draw_app s__law_draw (l := [.lst F]) (n := 2) (k := k) g (by omega) (by omega) (by simp only [ce] at gB; omega) (by omega)
    simp only [Int.cast_ofNat_Int, set_set] at d2 d3
    have hp : (0 : Int) < ((d + 1 : Nat) : Int) := by omega
    rw [elO, ev_ife]
    by_cases hv : v = 0
    · subst hv
      obtain ⟨t, o2, t1, t2, t3⟩ := ih j (m.set j o1 ++ [.lst F]) (B' + 1) k (by omega) (d3.app _) (by simp only [ce] at gB; omega) (by omega)
      rw [set_left (by simpa using hjl), set_set] at t2 t3
      refine ⟨t, o2, ⟨t1.nf, by have := t1.ht; omega, by have := t1.nodes; simp only [Nn]; omega⟩, ?_, (t3.of_app (by simpa using hjl)).mono (by simp only [ce]; omega)⟩
      have e0 : ((d + 1 : Nat) : Int) - 1 = (d : Int) := by omega
      simp only [Int.natCast_zero] at d2
      simp -implicitDefEqProofs only [ev_and, ev_cmp, ev_var, ev_con, ev_call, ev_bin, evL_cons, evL_nil, getV_zero, getV_succ, Option.map_some, bnq_ok, bnqL_ok, consL_ok, putL_ok, rd_val, obq_some, cop_gt, cop_eq, vl_eq, truth_bl, hp, decide_true, sel_true, pick_cons, pick_nil, List.getElem?_cons_zero, List.getElem?_cons_succ, d2, two_true, bop_sub, giv_some, e0, t2]
    · obtain ⟨x, o', e1, e2, e3⟩ := num (d + 1) j (d + 1) m k o1 F x4 (B' + 1) d3 (by simp only [ce] at gB; omega) (by omega) hjl
      refine ⟨x, o', e1, ?_, e3.mono (by simp only [ce]; have := cc_ge d; omega)⟩
      have hv' : ¬ (v : Int) = 0 := by omega
      simp -implicitDefEqProofs only [ev_and, ev_cmp, ev_var, ev_con, ev_call, evL_cons, evL_nil, getV_zero, getV_succ, Option.map_some, bnq_ok, bnqL_ok, consL_ok, putL_ok, rd_val, obq_some, cop_gt, cop_eq, vl_eq, truth_bl, hp, decide_true, sel_true, pick_cons, pick_nil, List.getElem?_cons_zero, List.getElem?_cons_succ, d2, hv', decide_false, two_false]
      exact e2
end Wk

set_option linter.all false
set_option maxRecDepth 100000
/-! Wx -/
namespace Wk
open PM PY Fn Ma
open PySem (Str)
variable {P : Pr}
mutual
theorem okR_dTs : ∀ t : Tr, okRs (dTs t) = true
  | .nil => rfl
  | .cons h t => by rw [dTs, okRs, okR, okR_dTs h, okR_dTs t]; rfl
end
theorem okR_dT (t : Tr) : okR (dT t) = true := by rw [dT, okR, okR_dTs]
theorem rw_dTs (t : Tr) : rwDs (dTs t) + 5 ≤ 5 * nodes t := by
  induction t with
  | nil => simp [dTs, rwDs, nodes]
  | cons h t ih1 ih2 => simp only [dTs, rwDs, rwD, nodes] at *; omega
theorem rw_dT (t : Tr) : rwD (dT t) ≤ 5 * nodes t := by
  have := rw_dTs t
  rw [dT, rwD]; omega
theorem nodes_rep (n : Nat) : nodes (Tr.ofL (List.replicate n .nil)) = n + 1 := by rw [nodes_ofL, sumN_zero]; omega
theorem ht_rep (n : Nat) : ht (Tr.ofL (List.replicate n .nil)) ≤ 1 := ht_ofL fun x hx => by rw [(List.mem_replicate.1 hx).2]; simp [Ma.ht]
theorem nf_rep (n : Nat) : nf (Tr.ofL (List.replicate n .nil)) := nf_iff.2 ⟨List.pairwise_replicate.2 (.inr (Tr.le_refl _)), fun x hx => by rw [(List.mem_replicate.1 hx).2]; trivial⟩
theorem plains_T (l : List Tr) : plains (l.map dT) = true := by
  have := plain_dTs (Tr.ofL l)
  rwa [dTs_kids, Tr.kids_ofL] at this
theorem depths_T (l : List Tr) : depths (l.map dT) = ht (Tr.ofL l) := by
  have := depth_dTs (Tr.ofL l)
  rwa [dTs_kids, Tr.kids_ofL] at this
theorem szDs_T (l : List Tr) : 1 + szDs (l.map dT) = nodes (Tr.ofL l) := by
  have := sz_dTs (Tr.ofL l)
  rwa [dTs_kids, Tr.kids_ofL] at this
theorem okRs_T (l : List Tr) : okRs (l.map dT) = true := by
  have := okR_dTs (Tr.ofL l)
  rwa [dTs_kids, Tr.kids_ofL] at this
theorem rwDs_T (l : List Tr) : rwDs (l.map dT) + 5 ≤ 5 * nodes (Tr.ofL l) := by
  have := rw_dTs (Tr.ofL l)
  rwa [dTs_kids, Tr.kids_ofL] at this
theorem cop_isnot_bl (a b : Bool) : cop .IsNot (.bl a) (.bl b) = some (a != b) := by simp [cop, bne_comm]
theorem minus_ok : ∀ {a d : List Tr}, desc a → desc d → Tr.lt (Tr.ofL d) (Tr.ofL a) = false → plus a (d.drop (lcp a d)) = d
  | [], d, _, _, _ => by cases d <;> simp [lcp, nil_plus]
  | x :: a, [], _, _, h => by simp [Tr.ofL, Tr.lt, Tr.cmp] at h
  | x :: a, w :: d, ha, hd, h => by
    rw [lcp]
    by_cases e : x = w
    · subst e
      rw [if_pos rfl, List.drop_succ_cons]
      have ih := minus_ok (a := a) (d := d) (List.pairwise_cons.1 ha).2 (List.pairwise_cons.1 hd).2 (by
        simp only [Tr.ofL, Tr.lt, Tr.cmp, Tr.cmp_self] at h ⊢
        simpa [Ordering.then] using h)
      cases g : d.drop (lcp a d) with
      | nil => rw [g] at ih; rw [plus_nil] at ih ⊢; rw [ih]
      | cons z r =>
        have hz : Tr.le z x = true := (List.pairwise_cons.1 hd).1 z (List.mem_of_mem_drop (by rw [g]; exact .head _))
        rw [plus_step ha, if_pos hz, ← g, ih]
    · rw [if_neg e, List.drop_zero]
      have hxw : Tr.le w x = false := by
        have h2 : Tr.cmp w x ≠ .lt := by
          intro h3
          simp [Tr.ofL, Tr.lt, Tr.cmp, h3, Ordering.then] at h
        have h4 : Tr.cmp w x ≠ .eq := fun h5 => e (Tr.cmp_eq h5).symm
        cases h6 : Tr.cmp w x with
        | lt => exact absurd h6 h2
        | eq => exact absurd h6 h4
        | gt => simp [Tr.le, h6]
      rw [plus_step ha, if_neg (by simp [hxw])]
theorem lcp_self : ∀ a : List Tr, lcp a a = a.length
  | [] => rfl
  | x :: a => by simp [lcp, lcp_self a]
theorem cop_lt_dL (a b : List Tr) (h : ht (Tr.ofL a) ≤ 63 ∨ ht (Tr.ofL b) ≤ 63) : cop .Lt (dL a) (dL b) = some (Tr.lt (Tr.ofL a) (Tr.ofL b)) := by
  have := cop_lt_dT (Tr.ofL a) (Tr.ofL b) h
  rwa [dT_ofL, dT_ofL] at this
theorem cop_eq_dL' (a b : List Tr) (h : ht (Tr.ofL a) ≤ 63 ∨ ht (Tr.ofL b) ≤ 63) : cop .Eq (dL a) (dL b) = some (decide (a = b)) := by
  have := cop_eq_dT (Tr.ofL a) (Tr.ofL b) h
  rw [dT_ofL, dT_ofL] at this
  rw [this]
  by_cases e : a = b
  · simp [e]
  · have : ¬ Tr.ofL a = Tr.ofL b := fun g => e (Tr.ofL_inj g)
    simp [e, this]
theorem cop_ne_dL' (a b : List Tr) (h : ht (Tr.ofL a) ≤ 63 ∨ ht (Tr.ofL b) ≤ 63) : cop .NotEq (dL a) (dL b) = some (!decide (a = b)) := by
  have := cop_ne_dT (Tr.ofL a) (Tr.ofL b) h
  rw [dT_ofL, dT_ofL] at this
  rw [this]
  by_cases e : a = b
  · simp [e]
  · have : ¬ Tr.ofL a = Tr.ofL b := fun g => e (Tr.ofL_inj g)
    simp [e, this]
theorem cop_ne_bl (a b : Bool) : cop .NotEq (.bl a) (.bl b) = some (a != b) := by
  rw [cop_neD rfl rfl (.inl (by simp [D.depth]))]
  cases a <;> cases b <;> rfl
theorem cop_ne_str {x : Str} (h : (D.str x).plain = true) : cop .NotEq (.str x) (.str x) = some false := cop_ne_self h (by simp [D.depth])
theorem okR_L (l : List Tr) : okR (dL l) = true := by rw [dL_dT]; exact okR_dT _
theorem rw_L (l : List Tr) : rwD (dL l) ≤ 5 * nodes (Tr.ofL l) := by rw [dL_dT]; exact rw_dT _
theorem depth_L (l : List Tr) : (dL l).depth = ht (Tr.ofL l) + 1 := by rw [dL_dT, dT, D.depth, depth_dTs]
theorem plain_L (l : List Tr) : (dL l).plain = true := by rw [D.plain, plains_T]
theorem repr2 {a b : D} (h1 : okR a = true) (h2 : okR b = true) (d1 : a.depth ≤ 59) (d2 : b.depth ≤ 59) (w1 : rwD a ≤ 100000) (w2 : rwD b ≤ 100000) : blt .repr [.lst [a, b]] = some (.str (reprD (.lst [a, b])), false) ∧ (D.str (reprD (.lst [a, b]))).plain = true :=
  blt_repr (by simp [okR, okRs, h1, h2]) (by simp [D.depth, depths]; omega) (by simp [rwD, rwDs]; omega)
end Wk

set_option linter.all false
set_option maxRecDepth 100000
/-! Wk9 -/
namespace Wk
open PM PY Fn Ma
open PySem (Str)
variable {P : Pr}
abbrev S_need_wormG (P : Pr) := ∀ (d : D) (k : Nat) (m : Mu), Okd d → 64 ≤ k → callN P k "need_worm" [.val d] m = if wormB d = true then some (.ok (.val .non) false m) else refuse "InvalidWorm" d m
theorem t_need_wormG (fd_need_worm : P.fd "need_worm" = some f_need_worm) (s_is_worm_in : S_is_worm_in P) (s_anew : S_anew P) : S_need_wormG P := by
  intro d k m h hk
  obtain ⟨k, rfl, hj⟩ := at_succ hk
  rw [callN_at fd_need_worm _ _ _ rfl]
  have e := s_is_worm_in d k m h.pl (by omega)
  obtain ⟨fr, e2⟩ := s_anew 60 d k m h.pl h.dp h.sz (by omega)
  by_cases g : wormB d = true
  · rw [g] at e
    rw [if_pos g]
    simp -implicitDefEqProofs [f_need_worm, e]
  · rw [Bool.not_eq_true] at g
    rw [g] at e
    rw [g]
    simp -implicitDefEqProofs [f_need_worm, e, e2, refuse]
abbrev S_is_worm (P : Pr) := ∀ (d : D) (k : Nat) (m : Mu), d.plain = true → 4 ≤ k → callN P k "is_worm" [.val d] m = some (.ok (.val (.bl (wormB d))) false m)
theorem t_is_worm (fd_is_worm : P.fd "is_worm" = some f_is_worm) (s_is_worm_in : S_is_worm_in P) : S_is_worm P := by
  intro d k m h hk
  obtain ⟨k, rfl, hj⟩ := at_succ hk
  rw [callN_at fd_is_worm _ _ _ rfl]
  simp -implicitDefEqProofs [f_is_worm, s_is_worm_in d k m h (by omega)]
theorem sz_W (w : List Nat) : szD (dW w) = w.length + 1 := by
  have : ∀ w : List Nat, szDs (w.map fun (n : Nat) => D.int n) = w.length := by
    intro w
    induction w with
    | nil => rfl
    | cons a w ih => simp only [List.map_cons, szDs, szD, ih, List.length_cons]; omega
  rw [szD, this]; omega
theorem dep_W (w : List Nat) : (dW w).depth ≤ 1 := by
  have : ∀ w : List Nat, depths (w.map fun (n : Nat) => D.int n) = 0 := by
    intro w
    induction w with
    | nil => rfl
    | cons a w ih => simp only [List.map_cons, depths, D.depth, ih]; rfl
  rw [D.depth, this]; omega
theorem okd_W {w : List Nat} (h : w.length ≤ 1000) : Okd (dW w) := ⟨plain_W w, by have := dep_W w; omega, by rw [sz_W]; simp [line]; omega⟩
/-- a worm with n added at each letter -/
abbrev mvd (w : List Nat) (n : Int) : D := dI (w.map fun (x : Nat) => (x : Int) + n)
def mvB (w : List Nat) (n : Int) : Bool := w.all fun (x : Nat) => decide (0 ≤ (x : Int) + n) && decide ((x : Int) + n ≤ 6)
theorem mvd_ok {w : List Nat} (h : w.length ≤ 400) (n : Int) : wormB (mvd w n) = mvB w n := by
  simp [wormB, mvB, btw, h, Function.comp_def]
abbrev S_movedG (P : Pr) := ∀ (f : Str) (sg : Int) (d : D) (k : Nat) (m : Mu), (f = "raised_in" ∧ sg = 1 ∨ f = "lowered_in" ∧ sg = -1) → Okd d → 65 ≤ k →
  (∀ x : D, wormB d = false → callN P k "moved" [.val d, .val x, .val (.fn f)] m = refuse "InvalidWorm" d m) ∧
  (∀ (w : List Nat) (n : Int), d = dW w → WormOk w → callN P k "moved" [.val d, .val (.int n), .val (.fn f)] m = if (0 ≤ n ∧ n ≤ 6) ∧ mvB w (sg * n) = true then some (.ok (.val (mvd w (sg * n))) false m) else refuse "InvalidNumber" (.int n) m)
theorem t_movedG (fd_moved : P.fd "moved" = some f_moved) (s_need_worm : S_need_wormG P) (s_need_number : S_need_numberG P) (s_raised_in : S_raised_in P) (s_lowered_in : S_lowered_in P) (s_is_worm_in : S_is_worm_in P) (gl_MOST_LETTER : P.glob "MOST_LETTER" = some (.int 6)) : S_movedG P := by
  intro f sg d k m hf ho hk
  obtain ⟨k, rfl, hj⟩ := at_succ hk
  have e := s_need_worm d k m ho hj
  refine ⟨fun x g => ?_, fun w n hd hw => ?_⟩
  · rw [callN_at fd_moved _ _ _ rfl]
    rw [g] at e
    simp -implicitDefEqProofs [f_moved, e, refuse]
  · rw [callN_at fd_moved _ _ _ rfl]
    subst hd
    rw [if_pos (wormB_W.2 hw)] at e
    have e2 := s_need_number n 0 6 k m (by omega)
    have e3 : callN P k f [.val (dW w), .val (.int n)] m = some (.ok (.val (mvd w (sg * n))) false m) := by
      rcases hf with ⟨rfl, rfl⟩ | ⟨rfl, rfl⟩
      · have := s_raised_in (w.map fun (n : Nat) => (n : Int)) n k m (by have := hw.1; simp [line]; omega) (by omega)
        rw [List.map_map, ← dW_dI] at this
        rw [this]; simp [Function.comp_def]
      · have := s_lowered_in (w.map fun (n : Nat) => (n : Int)) n k m (by have := hw.1; simp [line]; omega) (by omega)
        rw [List.map_map, ← dW_dI] at this
        rw [this]; simp [Function.comp_def, Int.sub_eq_add_neg]
    have e4 := s_is_worm_in (mvd w (sg * n)) k m (plain_dI _) (by omega)
    rw [mvd_ok hw.1] at e4
    by_cases g : 0 ≤ n ∧ n ≤ 6
    · rw [if_pos g] at e2
      by_cases g2 : mvB w (sg * n) = true
      · rw [if_pos ⟨g, g2⟩]
        rw [g2] at e4
        simp -implicitDefEqProofs [f_moved, e, e2, e3, e4, Pr.g, gl_MOST_LETTER]
      · rw [if_neg (fun hh => g2 hh.2)]
        rw [Bool.not_eq_true] at g2
        rw [g2] at e4
        simp -implicitDefEqProofs [f_moved, e, e2, e3, e4, Pr.g, gl_MOST_LETTER, refuse]
    · rw [if_neg g] at e2
      rw [if_neg (fun hh => g hh.1)]
      simp -implicitDefEqProofs [f_moved, e, e2, Pr.g, gl_MOST_LETTER, refuse]
abbrev S_mvG (f : Str) (sg : Int) (P : Pr) := ∀ (d : D) (k : Nat) (m : Mu), Okd d → 66 ≤ k →
  (∀ x : D, wormB d = false → callN P k f [.val d, .val x] m = refuse "InvalidWorm" d m) ∧
  (∀ (w : List Nat) (n : Int), d = dW w → WormOk w → callN P k f [.val d, .val (.int n)] m = if (0 ≤ n ∧ n ≤ 6) ∧ mvB w (sg * n) = true then some (.ok (.val (mvd w (sg * n))) false m) else refuse "InvalidNumber" (.int n) m)
abbrev S_raisedG (P : Pr) := S_mvG "raised" 1 P
abbrev S_loweredG (P : Pr) := S_mvG "lowered" (-1) P
theorem t_raisedG (fd_raised : P.fd "raised" = some f_raised) (s_moved : S_movedG P) : S_raisedG P := by
  intro d k m ho hk
  obtain ⟨k, rfl, hj⟩ := at_succ hk
  have e := s_moved "raised_in" 1 d k m (.inl ⟨rfl, rfl⟩) ho hj
  refine ⟨fun x g => ?_, fun w n hd hw => ?_⟩
  · rw [callN_at fd_raised _ _ _ rfl]
    simp -implicitDefEqProofs [f_raised, e.1 x g, refuse]
  · rw [callN_at fd_raised _ _ _ rfl]
    have e2 := e.2 w n hd hw
    by_cases g : (0 ≤ n ∧ n ≤ 6) ∧ mvB w (1 * n) = true
    · rw [if_pos g] at e2 ⊢
      simp -implicitDefEqProofs [f_raised, e2]
    · rw [if_neg g] at e2 ⊢
      simp -implicitDefEqProofs [f_raised, e2, refuse]
theorem t_loweredG (fd_lowered : P.fd "lowered" = some f_lowered) (s_moved : S_movedG P) : S_loweredG P := by
  intro d k m ho hk
  obtain ⟨k, rfl, hj⟩ := at_succ hk
  have e := s_moved "lowered_in" (-1) d k m (.inr ⟨rfl, rfl⟩) ho hj
  refine ⟨fun x g => ?_, fun w n hd hw => ?_⟩
  · rw [callN_at fd_lowered _ _ _ rfl]
    simp -implicitDefEqProofs [f_lowered, e.1 x g, refuse]
  · rw [callN_at fd_lowered _ _ _ rfl]
    have e2 := e.2 w n hd hw
    by_cases g : (0 ≤ n ∧ n ≤ 6) ∧ mvB w (-1 * n) = true
    · rw [if_pos g] at e2 ⊢
      simp -implicitDefEqProofs [f_lowered, e2]
    · rw [if_neg g] at e2 ⊢
      simp -implicitDefEqProofs [f_lowered, e2, refuse]
abbrev S_orderX (P : Pr) := ∀ (d : D) (k : Nat) (m : Mu), Okd d → wormB d = false → 65 ≤ k → callN P k "order" [.val d] m = refuse "InvalidWorm" d m
theorem t_orderX (fd_order : P.fd "order" = some f_order) (s_need_worm : S_need_wormG P) : S_orderX P := by
  intro d k m ho g hk
  obtain ⟨k, rfl, hj⟩ := at_succ hk
  have e := s_need_worm d k m ho hj
  rw [g] at e
  rw [callN_at fd_order _ _ _ rfl]
  simp -implicitDefEqProofs [f_order, e, refuse]
abbrev S_form_ofX (P : Pr) := ∀ (d : D) (k : Nat) (m : Mu), Okd d → wormB d = false → 65 ≤ k → callN P k "form_of" [.val d] m = refuse "InvalidWorm" d m
theorem t_form_ofX (fd_form_of : P.fd "form_of" = some f_form_of) (s_need_worm : S_need_wormG P) : S_form_ofX P := by
  intro d k m ho g hk
  obtain ⟨k, rfl, hj⟩ := at_succ hk
  have e := s_need_worm d k m ho hj
  rw [g] at e
  rw [callN_at fd_form_of _ _ _ rfl]
  simp -implicitDefEqProofs [f_form_of, e, refuse]
abbrev S_worm_ofX (P : Pr) := ∀ (d : D) (k : Nat) (m : Mu), Okd d → 66 ≤ k → (ordB d = false → callN P k "worm_of" [.val d] m = refuse "InvalidOrdinal" d m) ∧ (∀ t, d = dT t → OrdOk t → wormB (dW (wrm t)) = false → callN P k "worm_of" [.val d] m = refuse "InvalidOrdinal" d m)
theorem t_worm_ofX (fd_worm_of : P.fd "worm_of" = some f_worm_of) (s_need_ordinal : S_need_ordinalG P) (s_worm_in : S_worm_in P) (s_is_worm_in : S_is_worm_in P) (s_anew : S_anew P) : S_worm_ofX P := by
  intro d k m ho hk
  obtain ⟨k, rfl, hj⟩ := at_succ hk
  have e := s_need_ordinal d k m ho (by omega)
  refine ⟨fun g => ?_, fun t hd ht g => ?_⟩
  · rw [g] at e
    rw [callN_at fd_worm_of _ _ _ rfl]
    simp -implicitDefEqProofs [f_worm_of, e, refuse]
  · subst hd
    rw [if_pos ht.ordB] at e
    have e2 := s_worm_in 59 t k m ht.2.2 (by have := ht.2.1; omega) (by omega)
    have e3 := s_is_worm_in (dW (wrm t)) k m (plain_W _) (by omega)
    rw [g] at e3
    obtain ⟨fr, e4⟩ := s_anew 60 (dT t) k m ho.pl ho.dp ho.sz (by omega)
    rw [callN_at fd_worm_of _ _ _ rfl]
    simp -implicitDefEqProofs [f_worm_of, e, e2, e3, e4, refuse]
end Wk

set_option linter.all false
/-! MaI -/
namespace Ma
open Tr
theorem sumF_plus (f : Tr → Nat) (a b : List Tr) : ((plus a b).map f).sum ≤ (a.map f).sum + (b.map f).sum := by
  cases b with
  | nil => simp [plus]
  | cons y b =>
    have : ∀ (p : Tr → Bool) (a : List Tr), ((a.filter p).map f).sum ≤ (a.map f).sum := by
      intro p a
      induction a with
      | nil => simp
      | cons x a ih => by_cases h : p x = true <;> simp [List.filter_cons, h] <;> omega
    have h := this (fun x => le y x) a
    simp only [plus, List.map_append, List.sum_append]
    omega
theorem sumF_foldP (f : Tr → Nat) : ∀ (xs a : List Tr), ((foldP a xs).map f).sum ≤ (a.map f).sum + (xs.map f).sum
  | [], a => by simp [foldP]
  | x :: xs, a => by
    have h1 := sumF_foldP f xs (plus a [x])
    have h2 := sumF_plus f a [x]
    have e : foldP a (x :: xs) = foldP (plus a [x]) xs := rfl
    rw [e]
    simp only [List.map_cons, List.sum_cons, List.map_nil, List.sum_nil] at *
    omega
theorem cutA_lens (h w : List Nat) : ((cutA h w).map fun p => p.length + 1).sum = h.length + w.length + 1 := by
  induction w generalizing h with
  | nil => simp [cutA]
  | cons a w ih => cases a <;> simp [cutA, ih] <;> omega
theorem cutA_many (h w : List Nat) : (cutA h w).length ≤ w.length + 1 ∧ (zeros w = false → (cutA h w).length ≤ w.length) := by
  induction w generalizing h with
  | nil => simp [cutA, zeros]
  | cons a w ih =>
    cases a with
    | zero =>
      have := ih []
      simp only [cutA, List.length_cons]
      refine ⟨by omega, fun hz => ?_⟩
      have : zeros w = false := by simpa [zeros] using hz
      have := (ih []).2 this
      omega
    | succ k =>
      have := ih (h ++ [k + 1])
      simp only [cutA, List.length_cons]
      exact ⟨by omega, fun _ => by omega⟩
theorem len_ofL : ∀ (l : List Tr), desc l → (l.head? = some nil → (wrm (ofL l)).length ≤ l.length) ∧ (l ≠ [] → l.head? ≠ some nil → (wrm (ofL l)).length + 1 ≤ (l.map fun x => (wrm x).length + 1).sum)
  | [], _ => by simp
  | x :: l, h => by
    refine ⟨fun hx => ?_, fun _ hx => ?_⟩
    · simp at hx
      subst hx
      simp [ofL, wrm]
    · simp at hx
      rw [ofL, wrm_cons hx]
      have := (len_join ((x :: kids (ofL l)).map fun x => up (wrm x)).reverse).2 (by simp)
      simp [Function.comp_def] at this ⊢
      rw [← List.map_reverse] at this
      simp at this
      omega
theorem sum_one {α : Type} (l : List α) : (l.map fun _ => 1).sum = l.length := by
  induction l with
  | nil => rfl
  | cons x l ih => simp only [List.map_cons, List.sum_cons, ih, List.length_cons]; omega
theorem len_form (w : List Nat) : (wrm (ofL (ord w))).length ≤ w.length := by
  have key : ∀ (n : Nat) (w : List Nat), (∀ x ∈ w, x ≤ n) → (wrm (ofL (ord w))).length ≤ w.length := by
    intro n
    induction n with
    | zero =>
      intro w hw
      rw [ord_step, if_pos (zeros_of hw)]
      cases w with
      | nil => simp [ofL, wrm]
      | cons a w => simp [List.replicate_succ, ofL, wrm]
    | succ n ih =>
      intro w hw
      by_cases hz : zeros w = true
      · rw [ord_step, if_pos hz]
        cases w with
        | nil => simp [ofL, wrm]
        | cons a w => simp [List.replicate_succ, ofL, wrm]
      · rw [Bool.not_eq_true] at hz
        have hd := desc_ord w
        have h1 := len_ofL _ hd
        rw [ord_whole hz, whole] at h1 ⊢
        have h2 := sumF_foldP (fun x => (wrm x).length + 1) ((cut w).reverse.map fun p => ofL (ord (low p))) []
        have h3 := sumF_foldP (fun _ => 1) ((cut w).reverse.map fun p => ofL (ord (low p))) []
        have h4 : (((cut w).reverse.map fun p => ofL (ord (low p))).map fun x => (wrm x).length + 1).sum ≤ w.length + 1 := by
          have e := cutA_lens [] w
          rw [List.map_map, List.map_reverse, List.sum_reverse]
          have := sum_le ((fun x => (wrm x).length + 1) ∘ fun p => ofL (ord (low p))) (fun p => p.length + 1) (cut w) (fun p hp => by
            have := ih (low p) (low_le hw hp)
            simp at this ⊢; omega)
          have e2 : cut w = cutA [] w := rfl
          rw [← e2] at e
          simp at e this ⊢
          omega
        have h5 := (cutA_many [] w).2 hz
        have e5 : (cutA [] w).length = (cut w).length := rfl
        generalize foldP [] ((cut w).reverse.map fun p => ofL (ord (low p))) = l at *
        simp only [List.map_nil, List.sum_nil, Nat.zero_add] at h2
        rw [sum_one, sum_one, sum_one] at h3
        simp only [List.length_nil, List.length_map, List.length_reverse] at h3
        by_cases hn : l = []
        · subst hn; simp [ofL, wrm]
        · by_cases hx : l.head? = some nil
          · have := h1.1 hx; omega
          · have := h1.2 hn hx
            omega
  exact key (top w) w (top_le.1 (Nat.le_refl _))
/-- the last exponent comes from what stands ahead of the first 0 -/
theorem cut_head (w : List Nat) : (cut w).head? = some (w.takeWhile (fun x => decide (0 < x))) := by
  have : ∀ (h w : List Nat), (cutA h w).head? = some (h ++ w.takeWhile (fun x => decide (0 < x))) := by
    intro h w
    induction w generalizing h with
    | nil => simp [cutA]
    | cons a w ih => cases a <;> simp [cutA, ih]
  simpa using this [] w
theorem ord_last {w : List Nat} (hz : zeros w = false) : (ord w).getLast? = some (ofL (ord (low (w.takeWhile fun x => decide (0 < x))))) := by
  rw [ord_whole hz, whole]
  obtain ⟨p, r, e⟩ : ∃ p r, cut w = p :: r := by
    cases h : cut w with
    | nil => exact absurd h (cutA_ne _ _)
    | cons p r => exact ⟨p, r, rfl⟩
  have := cut_head w
  rw [e] at this
  simp at this
  subst this
  rw [e, List.reverse_cons, List.map_append, foldP_append]
  simp [foldP, plus]
theorem cut_zeros (k : Nat) : ∀ h : List Nat, cutA h (List.replicate k 0) = h :: List.replicate k [] := by
  induction k with
  | zero => intro h; rfl
  | succ k ih => intro h; rw [List.replicate_succ, cutA, ih, ← List.replicate_succ]
theorem ord_ne {w : List Nat} (h : w ≠ []) : ord w ≠ [] := by
  by_cases hz : zeros w = true
  · rw [ord_step, if_pos hz]
    intro e
    exact h (List.eq_nil_of_length_eq_zero (by have := congrArg List.length e; simpa using this))
  · rw [Bool.not_eq_true] at hz
    intro e
    have := ord_last hz
    rw [e] at this
    simp at this
theorem whole_pos {w : List Nat} (hp : ∀ x ∈ w, 0 < x) : whole w = [ofL (ord (low w))] := by
  rw [whole, show cut w = cutA [] w from rfl, cutA_pos hp]
  simp [foldP, plus]
theorem zeros_pos {w : List Nat} (hw : w ≠ []) (hp : ∀ x ∈ w, 0 < x) (v : List Nat) : zeros (w ++ v) = false := by
  cases w with
  | nil => exact absurd rfl hw
  | cons a w =>
    have := hp a (.head _)
    simp [zeros]
    intro h; omega
theorem ord_behind {w : List Nat} (hw : w ≠ []) (hp : ∀ x ∈ w, 0 < x) (k : Nat) : ord (w ++ List.replicate k 0) = ord w := by
  cases k with
  | zero => simp
  | succ k =>
    rw [ord_whole (zeros_pos hw hp _)]
    have hz := zeros_pos hw hp []
    rw [List.append_nil] at hz
    rw [ord_whole hz, List.replicate_succ, whole_two, whole_pos hp]
    have hx : ofL (ord (low w)) ≠ nil := by
      intro e
      have : ord (low w) = [] := by rw [← kids_ofL (ord (low w)), e]; rfl
      exact ord_ne (by simpa using hw) this
    have hall : ∀ y ∈ whole (List.replicate k 0), y = nil := by
      intro y hy
      rw [whole] at hy
      rcases foldP_mem _ _ y hy with h | h
      · cases h
      · obtain ⟨p, hp, rfl⟩ := List.mem_map.1 h
        rw [List.mem_reverse, show cut (List.replicate k 0) = cutA [] (List.replicate k 0) from rfl, cut_zeros] at hp
        have : p = [] := by
          rcases List.mem_cons.1 hp with h | h
          · exact h
          · exact (List.mem_replicate.1 h).2
        subst this
        rfl
    simp only [plus]
    rw [List.filter_eq_nil_iff.2]
    · rfl
    · intro y hy h
      rw [hall y hy] at h
      exact hx (le_antisymm h (nil_le _))
end Ma

set_option linter.all false
set_option maxRecDepth 100000
/-! Wx2 -/
namespace Wk
open PM PY Fn Ma
open PySem (Str)
variable {P : Pr}
theorem okRs_I {l : List Int} (h : ∀ x ∈ l, x.natAbs ≤ 1000) : okRs (l.map D.int) = true := by
  induction l with
  | nil => rfl
  | cons a l ih =>
    have h1 := h a (.head _)
    have h2 := ih fun x hx => h x (.tail _ hx)
    simp [okRs, okR, h2]; omega
theorem rwDs_I (l : List Int) : rwDs (l.map D.int) = 23 * l.length := by
  induction l with
  | nil => rfl
  | cons a l ih => simp only [List.map_cons, rwDs, rwD, ih, List.length_cons]; omega
theorem szDs_I (l : List Int) : szDs (l.map D.int) = l.length := by
  induction l with
  | nil => rfl
  | cons a l ih => simp only [List.map_cons, szDs, szD, ih, List.length_cons]; omega
theorem depths_I (l : List Int) : depths (l.map D.int) = 0 := by
  induction l with
  | nil => rfl
  | cons a l ih => simp only [List.map_cons, depths, D.depth, ih]; rfl
theorem bad_I {l : List Int} (h : ∀ x ∈ l, x.natAbs ≤ 1000) (hl : l.length ≤ 1000) : (Okd (dI l) ∧ blt .repr [dI l] = some (.str (reprD (dI l)), false) ∧ (D.str (reprD (dI l))).plain = true) ∧ (Okd (.lst (l.map D.int)) ∧ blt .repr [.lst (l.map D.int)] = some (.str (reprD (.lst (l.map D.int))), false) ∧ (D.str (reprD (.lst (l.map D.int)))).plain = true) := by
  have h1 := okRs_I h
  have h2 := rwDs_I l
  have h3 := szDs_I l
  have h4 := depths_I l
  have h5 := plains_int l
  refine ⟨⟨⟨by rw [D.plain, h5], by rw [D.depth, h4]; omega, by rw [szD, h3]; simp [line]; omega⟩, blt_repr (by rw [okR, h1]) (by rw [D.depth, h4]; omega) (by rw [rwD, h2]; omega)⟩, ⟨⟨by rw [D.plain, h5], by rw [D.depth, h4]; omega, by rw [szD, h3]; simp [line]; omega⟩, blt_repr (by rw [okR, h1]) (by rw [D.depth, h4]; omega) (by rw [rwD, h2]; omega)⟩⟩
theorem intsOf_I (l : List Int) : intsOf (l.map D.int) = some l := by
  induction l with
  | nil => rfl
  | cons a l ih => simp [intsOf, ih]
theorem maxI_spec : ∀ (l : List Int) (a : Int), maxI a l ∈ a :: l ∧ ∀ x ∈ a :: l, x ≤ maxI a l
  | [], a => by simp [maxI]
  | b :: l, a => by
    have h := maxI_spec l (if a < b then b else a)
    rw [maxI]
    generalize maxI (if a < b then b else a) l = z at *
    obtain ⟨h1, h2⟩ := h
    have h3 := h2 _ (.head _)
    refine ⟨?_, fun x hx => ?_⟩
    · rcases List.mem_cons.1 h1 with h | h
      · rw [h]; split <;> simp
      · exact .tail _ (.tail _ h)
    · rcases List.mem_cons.1 hx with rfl | hx
      · split at h3 <;> omega
      · rcases List.mem_cons.1 hx with rfl | hx
        · split at h3 <;> omega
        · exact h2 x (.tail _ hx)
theorem minI_spec : ∀ (l : List Int) (a : Int), minI a l ∈ a :: l ∧ ∀ x ∈ a :: l, minI a l ≤ x
  | [], a => by simp [minI]
  | b :: l, a => by
    have h := minI_spec l (if b < a then b else a)
    rw [minI]
    generalize minI (if b < a then b else a) l = z at *
    obtain ⟨h1, h2⟩ := h
    have h3 := h2 _ (.head _)
    refine ⟨?_, fun x hx => ?_⟩
    · rcases List.mem_cons.1 h1 with h | h
      · rw [h]; split <;> simp
      · exact .tail _ (.tail _ h)
    · rcases List.mem_cons.1 hx with rfl | hx
      · split at h3 <;> omega
      · rcases List.mem_cons.1 hx with rfl | hx
        · split at h3 <;> omega
        · exact h2 x (.tail _ hx)
theorem max_Wx {w : List Nat} (h : w ≠ []) : ∃ n : Nat, blt .max [dW w] = some (.int n, false) ∧ n ∈ w ∧ ∀ x ∈ w, x ≤ n := by
  cases w with
  | nil => exact absurd rfl h
  | cons a w =>
    have := maxI_spec (w.map fun (n : Nat) => (n : Int)) a
    have e := intsOf_I (((a :: w).map fun (n : Nat) => (n : Int)))
    obtain ⟨h1, h2⟩ := this
    rw [← List.map_cons (f := fun (n : Nat) => (n : Int))] at h1 h2
    obtain ⟨n, hn, en⟩ := List.mem_map.1 h1
    refine ⟨n, ?_, hn, fun x hx => ?_⟩
    · rw [dW_dI]
      simp only [blt, seqD, Option.bind_some, e]
      simp only [List.map_cons, Option.bind_some, en]
    · have := h2 x (List.mem_map_of_mem hx)
      rw [← en] at this; omega
theorem min_W {w : List Nat} (h : w ≠ []) : ∃ n : Nat, blt .min [dW w] = some (.int n, false) ∧ n ∈ w ∧ ∀ x ∈ w, n ≤ x := by
  cases w with
  | nil => exact absurd rfl h
  | cons a w =>
    have := minI_spec (w.map fun (n : Nat) => (n : Int)) a
    have e := intsOf_I (((a :: w).map fun (n : Nat) => (n : Int)))
    obtain ⟨h1, h2⟩ := this
    rw [← List.map_cons (f := fun (n : Nat) => (n : Int))] at h1 h2
    obtain ⟨n, hn, en⟩ := List.mem_map.1 h1
    refine ⟨n, ?_, hn, fun x hx => ?_⟩
    · rw [dW_dI]
      simp only [blt, seqD, Option.bind_some, e]
      simp only [List.map_cons, Option.bind_some, en]
    · have := h2 x (List.mem_map_of_mem hx)
      rw [← en] at this; omega
theorem ne_nilW (w : List Nat) : cop .NotEq (dW w) (.tup []) = some (!decide (w = [])) := by
  rw [cop_neD (plain_W w) rfl (.inr (by simp [D.depth, depths]))]
  cases w with
  | nil => rfl
  | cons a w => simp [eqD, eqDs]
theorem repr2W {a : List Nat} (h : WormOk a) : blt .repr [.lst [dW a, dW a]] = some (.str (reprD (.lst [dW a, dW a])), false) ∧ (D.str (reprD (.lst [dW a, dW a]))).plain = true := by
  have e := dW_dI a
  have h1 : okR (dW a) = true := by
    rw [e, okR, okRs_I fun x hx => by
      obtain ⟨y, hy, rfl⟩ := List.mem_map.1 hx
      have := h.2 y hy
      omega]
  have h2 := dep_W a
  have h3 : rwD (dW a) = 3 + 23 * a.length := by rw [e, rwD, rwDs_I]; simp
  have h4 := h.1
  exact repr2 h1 h1 (by omega) (by omega) (by omega) (by omega)
theorem neW (a : List Nat) : cop .NotEq (dW a) (dW a) = some false := cop_ne_self (plain_W a) (by have := dep_W a; omega)
theorem okf {w : List Nat} (h : WormOk w) : WormOk (wrm (Tr.ofL (ord w))) ∧ ord (wrm (Tr.ofL (ord w))) = ord w := by
  refine ⟨⟨Nat.le_trans (len_form w) h.1, fun x hx => ?_⟩, Tr.ofL_inj (ord_wrm _ (nf_ord w))⟩
  have := wrm_letters _ x hx
  have := ht_ordF 6 w h.2
  omega
theorem wt_len {w : List Nat} (h : ∀ x ∈ w, x ≤ 6) : wt w ≤ 7 * w.length := by
  induction w with
  | nil => simp [wt]
  | cons a w ih =>
    have h1 := h a (.head _)
    have h2 := ih fun x hx => h x (.tail _ hx)
    simp only [wt, List.map_cons, List.sum_cons, List.length_cons] at *
    omega
/-- what is no worm -/
structure BadW (d : D) : Prop where
  ok : Okd d
  no : wormB d = false
  rp : blt .repr [d] = some (.str (reprD d), false)
  pl : (D.str (reprD d)).plain = true
theorem eqDs_W : ∀ a b : List Nat, eqDs (a.map fun (n : Nat) => D.int n) (b.map fun (n : Nat) => D.int n) = decide (a = b)
  | [], [] => rfl
  | [], _ :: _ => rfl
  | _ :: _, [] => rfl
  | x :: a, y :: b => by
    rw [List.map_cons, List.map_cons, eqDs, eqDs_W a b]
    by_cases h : x = y
    · subst h; simp [eqD]
    · have : (eqD (D.int (x : Int)) (D.int (y : Int))) = false := by simp [eqD]; omega
      rw [this]; simp [h]
theorem eq_W (a b : List Nat) : cop .Eq (dW a) (dW b) = some (decide (a = b)) := by
  rw [cop_eqD (plain_W a) (plain_W b) (.inl (by have := dep_W a; omega)), eqD, eqDs_W]
theorem ne_W (a b : List Nat) : cop .NotEq (dW a) (dW b) = some (!decide (a = b)) := by
  rw [cop_neD (plain_W a) (plain_W b) (.inl (by have := dep_W a; omega)), eqD, eqDs_W]
theorem eq_nilW (a : List Nat) : cop .Eq (dW a) (.tup []) = some (decide (a = [])) := eq_W a []
theorem cat_W {a b : List Nat} (h : a.length + b.length ≤ 16777216) : bop .Add (dW a) (dW b) = some (dW (a ++ b), false) := by
  rw [bop_cat (by simpa [line] using h)]; simp
theorem slcW_to (w : List Nat) (i : Nat) : slcB false true (dW w) [.int i] = some (dW (w.take i), false) := by
  have := slc_to (w.map fun (n : Nat) => D.int n) i
  rwa [← List.map_take] at this
theorem slcW_from (w : List Nat) (i : Nat) : slcB true false (dW w) [.int i] = some (dW (w.drop i), false) := by
  have := slc_from (w.map fun (n : Nat) => D.int n) i
  rwa [← List.map_drop] at this
theorem slcW_1 (w : List Nat) : slcB true false (dW w) [.int 1] = some (dW w.tail, false) := by
  have := slcW_from w 1
  rwa [List.drop_one] at this
theorem len_W (w : List Nat) : blt .len [dW w] = some (.int w.length, false) := by simp
end Wk

set_option linter.all false
/-! MaJ -/
namespace Ma
open Tr
theorem le_cons_iff {x y a b : Tr} : le (.cons x a) (.cons y b) = true ↔ lt x y = true ∨ (x = y ∧ le a b = true) := by
  simp only [le, lt, cmp]
  cases e : cmp x y with
  | lt => simp
  | gt =>
    simp
    intro h; subst h; rw [cmp_self] at e; cases e
  | eq => have := cmp_eq e; subst this; simp
theorem lt_cons_iff {x y a b : Tr} : lt (.cons x a) (.cons y b) = true ↔ lt x y = true ∨ (x = y ∧ lt a b = true) := by
  simp only [lt, cmp]
  cases e : cmp x y with
  | lt => simp
  | gt =>
    simp
    intro h; subst h; rw [cmp_self] at e; cases e
  | eq => have := cmp_eq e; subst this; simp
theorem lt_le {x y : Tr} (h : lt x y = true) : le x y = true := by
  simp only [lt, le] at *; cases e : cmp x y <;> simp_all
theorem lt_irrefl (x : Tr) : lt x x = false := by simp [lt, cmp_self]
theorem le_lt_or {x y : Tr} (h : le x y = true) : lt x y = true ∨ x = y := by
  simp only [lt, le] at *
  cases e : cmp x y with
  | lt => simp
  | eq => exact .inr (cmp_eq e)
  | gt => rw [e] at h; simp at h
theorem lt_of_le_lt {x y z : Tr} (h : le x y = true) (g : lt y z = true) : lt x z = true := by
  rw [lt_not_le] at *
  cases e : le z x with
  | false => rfl
  | true => rw [le_trans e h] at g; cases g
theorem lt_of_lt_le {x y z : Tr} (h : lt x y = true) (g : le y z = true) : lt x z = true := by
  rw [lt_not_le] at *
  cases e : le z x with
  | false => rfl
  | true => rw [le_trans g e] at h; cases h
theorem not_le_lt {x y : Tr} (h : le x y = false) : lt y x = true := by rw [lt_not_le, h]; rfl
abbrev leL (a b : List Tr) : Prop := le (ofL a) (ofL b) = true
abbrev ltL (a b : List Tr) : Prop := lt (ofL a) (ofL b) = true
theorem leL_refl (a : List Tr) : leL a a := le_refl _
theorem leL_trans {a b c : List Tr} (h : leL a b) (g : leL b c) : leL a c := le_trans h g
theorem leL_antisymm {a b : List Tr} (h : leL a b) (g : leL b a) : a = b := ofL_inj (le_antisymm h g)
theorem nil_leL (a : List Tr) : leL [] a := nil_le _
theorem leL_nil {a : List Tr} (h : leL a []) : a = [] := leL_antisymm h (nil_leL _)
theorem not_leL {a b : List Tr} (h : ¬ leL a b) : ltL b a := not_le_lt (by simpa [leL] using h)
theorem leL_total (a b : List Tr) : leL a b ∨ leL b a := le_total _ _
/-- the last exponent's exponents -/
def lst (a : List Tr) : List Tr := match a.getLast? with | none => [] | some x => kids x
@[simp] theorem lst_nil : lst [] = [] := rfl
@[simp] theorem lst_snoc (a : List Tr) (x : Tr) : lst (a ++ [x]) = kids x := by simp [lst]
@[simp] theorem lst_one (x : Tr) : lst [x] = kids x := by simp [lst]
theorem lst_ord (w : List Nat) : lst (ord w) = ord (low (w.takeWhile fun x => decide (0 < x))) := by
  by_cases hz : zeros w = true
  · have e : w.takeWhile (fun x => decide (0 < x)) = [] := by
      cases w with
      | nil => rfl
      | cons a w =>
        simp [zeros] at hz
        simp [hz.1]
    rw [e, ord_step, if_pos hz]
    have e2 : ord (low []) = [] := by rw [ord_step]; rfl
    rw [e2]
    cases w with
    | nil => rfl
    | cons a w => rw [List.length_cons, List.replicate_succ', lst_snoc]; rfl
  · rw [Bool.not_eq_true] at hz
    rw [lst, ord_last hz]; simp
/-- n times the last exponent -/
def lsn : Nat → List Tr → List Tr
  | 0, a => a
  | n + 1, a => lsn n (lst a)
theorem lsn_nil : ∀ n, lsn n [] = []
  | 0 => rfl
  | n + 1 => by rw [lsn, lst_nil, lsn_nil n]
theorem lsn_succ : ∀ (n : Nat) (a : List Tr), lsn (n + 1) a = lst (lsn n a)
  | 0, a => rfl
  | n + 1, a => by rw [lsn, lsn_succ n (lst a)]; rfl
/-- the longest beginning with letters of n and more, lowered by n -/
def hdn (n : Nat) (w : List Nat) : List Nat := (w.takeWhile fun x => decide (n ≤ x)).map (· - n)
theorem takeWhile_map {α β : Type} (f : α → β) (p : β → Bool) : ∀ l : List α, (l.map f).takeWhile p = (l.takeWhile (p ∘ f)).map f
  | [] => rfl
  | x :: l => by simp only [List.map_cons, List.takeWhile_cons, Function.comp, takeWhile_map f p l]; split <;> simp [Function.comp]
theorem takeWhile_two {α : Type} (p q : α → Bool) (h : ∀ x, q x = true → p x = true) : ∀ l : List α, (l.takeWhile p).takeWhile q = l.takeWhile q
  | [] => rfl
  | x :: l => by
    cases e : p x with
    | false =>
      have : q x = false := by cases g : q x with | false => rfl | true => rw [h x g] at e; cases e
      simp [e, this]
    | true => simp only [List.takeWhile_cons, e, if_true, takeWhile_two p q h l]
theorem takeWhile_cong {α : Type} (p q : α → Bool) : ∀ l : List α, (∀ x ∈ l, p x = q x) → l.takeWhile p = l.takeWhile q
  | [], _ => rfl
  | x :: l, h => by rw [List.takeWhile_cons, List.takeWhile_cons, h x (.head _), takeWhile_cong p q l fun y hy => h y (.tail _ hy)]
theorem hdn_succ (n : Nat) (w : List Nat) : hdn (n + 1) w = low ((hdn n w).takeWhile fun x => decide (0 < x)) := by
  have e : ∀ l : List Nat, ((l.takeWhile fun x => decide (n ≤ x)).map (· - n)).takeWhile (fun x => decide (0 < x)) = (l.takeWhile fun x => decide (n + 1 ≤ x)).map (· - n) := fun l => by
    rw [takeWhile_map]
    congr 1
    rw [takeWhile_cong _ (fun x => decide (n + 1 ≤ x)) (l.takeWhile fun x => decide (n ≤ x)) (fun x _ => by simp [Function.comp]; constructor <;> intro h <;> omega)]
    exact takeWhile_two _ _ (fun x h => by simp at h ⊢; omega) l
  rw [hdn, hdn, e, low, List.map_map]
  apply List.map_congr_left
  intro x _
  simp [Function.comp]; omega
theorem takeWhile_all {α : Type} (p : α → Bool) : ∀ l : List α, (∀ x ∈ l, p x = true) → l.takeWhile p = l
  | [], _ => rfl
  | x :: l, h => by rw [List.takeWhile_cons, if_pos (h x (.head _)), takeWhile_all p l fun y hy => h y (.tail _ hy)]
theorem hdn_zero (w : List Nat) : hdn 0 w = w := by
  rw [hdn, takeWhile_all _ _ (fun x _ => by simp)]
  simp
theorem lsn_ord : ∀ (n : Nat) (w : List Nat), lsn n (ord w) = ord (hdn n w)
  | 0, w => by rw [hdn_zero]; rfl
  | n + 1, w => by rw [lsn_succ, lsn_ord n w, lst_ord, hdn_succ]
/-- at each number the head is no less -/
def Imp (a b : List Tr) : Prop := ∀ n, leL (lsn n b) (lsn n a)
theorem Imp.le {a b : List Tr} (h : Imp a b) : leL b a := h 0
theorem Imp.last {a b : List Tr} (h : Imp a b) : Imp (lst a) (lst b) := fun n => h (n + 1)
theorem imp_iff {a b : List Tr} : Imp a b ↔ leL b a ∧ Imp (lst a) (lst b) :=
  ⟨fun h => ⟨h.le, h.last⟩, fun h n => by cases n with | zero => exact h.1 | succ n => exact h.2 n⟩
theorem imp_refl (a : List Tr) : Imp a a := fun n => leL_refl _
theorem imp_trans {a b c : List Tr} (h : Imp a b) (g : Imp b c) : Imp a c := fun n => leL_trans (g n) (h n)
theorem imp_antisymm {a b : List Tr} (h : Imp a b) (g : Imp b a) : a = b := leL_antisymm g.le h.le
theorem imp_nil (a : List Tr) : Imp a [] := fun n => by rw [lsn_nil]; exact nil_leL _
/-- the least that implies both -/
structure Sup (c a b : List Tr) : Prop where
  one : Imp c a
  two : Imp c b
  least : ∀ d, nf (ofL d) → Imp d a → Imp d b → Imp d c
theorem Sup.uniq {c c' a b : List Tr} (h : Sup c a b) (g : Sup c' a b) (n : nf (ofL c)) (n' : nf (ofL c')) : c = c' :=
  imp_antisymm (g.least c n h.one h.two |> fun x => x) (h.least c' n' g.one g.two)
theorem Sup.symm {c a b : List Tr} (h : Sup c a b) : Sup c b a := ⟨h.two, h.one, fun d n x y => h.least d n y x⟩
theorem sup_self (a : List Tr) : Sup a a a := ⟨imp_refl a, imp_refl a, fun d _ h _ => h⟩
theorem sup_nil (a : List Tr) : Sup a a [] := ⟨imp_refl a, imp_nil a, fun d _ h _ => h⟩
theorem sup_imp {a b : List Tr} (h : Imp a b) : Sup a a b := ⟨imp_refl a, h, fun d _ g _ => g⟩
theorem leL_cons {x y : Tr} {a b : List Tr} : leL (x :: a) (y :: b) ↔ lt x y = true ∨ (x = y ∧ leL a b) := le_cons_iff
theorem ltL_cons {x y : Tr} {a b : List Tr} : ltL (x :: a) (y :: b) ↔ lt x y = true ∨ (x = y ∧ ltL a b) := lt_cons_iff
/-- the least one above another one with no exponent below x -/
theorem plus_least {x : Tr} : ∀ {t d : List Tr}, desc t → (∀ y ∈ d, le x y = true) → ltL t d → leL (plus t [x]) d
  | [], d, _, h, hl => by
    rw [nil_plus]
    cases d with
    | nil => simp [ltL, lt_irrefl] at hl
    | cons y d =>
      rw [leL_cons]
      rcases le_lt_or (h y (.head _)) with h1 | h1
      · exact .inl h1
      · exact .inr ⟨h1, nil_leL _⟩
  | z :: t, d, ht, h, hl => by
    cases d with
    | nil => simp [ltL, ofL, lt, cmp] at hl
    | cons y d =>
      rw [plus_step ht]
      by_cases g : le x z = true
      · rw [if_pos g, leL_cons]
        rcases ltL_cons.1 hl with h1 | ⟨h1, h2⟩
        · exact .inl h1
        · exact .inr ⟨h1, plus_least (List.pairwise_cons.1 ht).2 (fun y hy => h y (.tail _ hy)) h2⟩
      · rw [if_neg g, leL_cons]
        rcases le_lt_or (h y (.head _)) with h1 | h1
        · exact .inl h1
        · exact .inr ⟨h1, nil_leL _⟩
theorem last_least {x : Tr} {d : List Tr} (hd : desc d) (hne : d ≠ []) (h : le x (ofL (lst d)) = true) : ∀ y ∈ d, le x y = true := by
  intro y hy
  obtain ⟨l, z, rfl⟩ : ∃ l z, d = l ++ [z] := ⟨d.dropLast, d.getLast hne, (List.dropLast_concat_getLast hne).symm⟩
  rw [lst_snoc, ofL_kids] at h
  rcases List.mem_append.1 hy with h1 | h1
  · exact le_trans h ((List.pairwise_append.1 hd).2.2 y h1 z (by simp))
  · rw [List.mem_singleton.1 h1]; exact h
theorem lst_plus (t : List Tr) (x : Tr) : lst (plus t [x]) = kids x := by
  rw [plus, lst_snoc]
theorem ltL_plus (t : List Tr) (ht : desc t) (x : Tr) : ltL t (plus t [x]) := by
  have := cmp_plus (a := t) [] [x] ht
  rw [plus_nil] at this
  show (cmp _ _ == .lt) = true
  rw [this]; rfl
theorem plus_mono_right {t b c : List Tr} (ht : desc t) (h : leL b c) : leL (plus t b) (plus t c) := by
  have := cmp_plus (a := t) b c ht
  show (cmp _ _ != .gt) = true
  rw [this]; exact h
theorem leL_one {x y : Tr} (h : le x y = true) : leL [x] [y] := by
  rw [leL_cons]
  rcases le_lt_or h with h1 | h1
  · exact .inl h1
  · exact .inr ⟨h1, nil_leL _⟩
theorem le_one {x y : Tr} (h : leL [x] [y]) : le x y = true := by
  rcases leL_cons.1 h with h1 | ⟨h1, _⟩
  · exact lt_le h1
  · rw [h1]; exact le_refl _
theorem plus_mono_left {x : Tr} : ∀ {a b : List Tr}, desc a → desc b → leL a b → leL (plus a [x]) (plus b [x])
  | [], b, _, hb, _ => by
    rw [nil_plus]
    cases b with
    | nil => exact leL_refl _
    | cons y b =>
      rw [plus_step hb]
      by_cases g : le x y = true
      · rw [if_pos g, leL_cons]
        rcases le_lt_or g with h1 | h1
        · exact .inl h1
        · exact .inr ⟨h1, nil_leL _⟩
      · rw [if_neg g]; exact leL_refl _
  | z :: a, b, ha, hb, h => by
    cases b with
    | nil => exact absurd (leL_nil h) (by simp)
    | cons y b =>
      rw [plus_step ha, plus_step hb]
      rcases leL_cons.1 h with h1 | ⟨h1, h2⟩
      · by_cases g : le x z = true
        · rw [if_pos g, if_pos (le_trans g (lt_le h1)), leL_cons]; exact .inl h1
        · rw [if_neg g]
          by_cases g2 : le x y = true
          · rw [if_pos g2, leL_cons]
            rcases le_lt_or g2 with h3 | h3
            · exact .inl h3
            · exact .inr ⟨h3, nil_leL _⟩
          · rw [if_neg g2]; exact leL_refl _
      · subst h1
        by_cases g : le x z = true
        · rw [if_pos g, if_pos g, leL_cons]
          exact .inr ⟨rfl, plus_mono_left (List.pairwise_cons.1 ha).2 (List.pairwise_cons.1 hb).2 h2⟩
        · rw [if_neg g, if_neg g]; exact leL_refl _
/-- one letter, what stands ahead of it and behind it -/
theorem ord_split {w : List Nat} (hp : ∀ x ∈ w, 0 < x) (v : List Nat) : ord (w ++ 0 :: v) = plus (ord v) [ofL (ord (low w))] := by
  by_cases hw : w = []
  · subst hw
    by_cases hz : zeros v = true
    · have hz' : zeros (0 :: v) = true := by simpa [zeros] using hz
      rw [List.nil_append, ord_step, if_pos hz']
      have e : ord v = List.replicate v.length nil := by rw [ord_step, if_pos hz]
      rw [e]
      have e2 : ofL (ord (low [])) = nil := by
        have : ord (low []) = [] := by rw [ord_step]; rfl
        rw [this]; rfl
      rw [e2, plus, List.filter_eq_self.2 (fun x _ => nil_le x), List.length_cons, List.replicate_succ']
    · rw [Bool.not_eq_true] at hz
      have hz' : zeros (0 :: v) = false := by simpa [zeros] using hz
      have h2 := whole_two [] v
      rw [List.nil_append] at h2
      rw [List.nil_append, ord_whole hz', h2, ← ord_whole hz]
      congr 1
  · have hz := zeros_pos hw hp (0 :: v)
    rw [ord_whole hz, whole_two, whole_pos hp]
    by_cases hv : zeros v = true
    · have hx : ofL (ord (low w)) ≠ nil := by
        intro e
        have : ord (low w) = [] := by rw [← kids_ofL (ord (low w)), e]; rfl
        exact ord_ne (by simpa using hw) this
      have hno : ∀ l : List Tr, (∀ y ∈ l, y = nil) → plus l [ofL (ord (low w))] = [ofL (ord (low w))] := fun l hl => by
        rw [plus, List.filter_eq_nil_iff.2]
        · rfl
        · intro y hy h
          rw [hl y hy] at h
          exact hx (le_antisymm h (nil_le _))
      rw [hno, hno]
      · intro y hy
        rw [ord_step, if_pos hv] at hy
        exact (List.mem_replicate.1 hy).2
      · have hv2 : v = List.replicate v.length 0 := by
          rw [List.eq_replicate_iff]
          exact ⟨rfl, fun x hx => by simpa using (List.all_eq_true.1 hv) x hx⟩
        intro y hy
        rw [whole] at hy
        rcases foldP_mem _ _ y hy with h | h
        · cases h
        · obtain ⟨p, hp, rfl⟩ := List.mem_map.1 h
          rw [List.mem_reverse, hv2, show cut (List.replicate v.length 0) = cutA [] (List.replicate v.length 0) from rfl, cut_zeros] at hp
          have : p = [] := by
            rcases List.mem_cons.1 hp with h | h
            · exact h
            · exact (List.mem_replicate.1 h).2
          subst this
          rfl
    · rw [Bool.not_eq_true] at hv
      rw [ord_whole hv]
theorem ord_pos {w : List Nat} (hw : w ≠ []) (hp : ∀ x ∈ w, 0 < x) : ord w = [ofL (ord (low w))] := by
  have hz := zeros_pos hw hp []
  rw [List.append_nil] at hz
  rw [ord_whole hz, whole_pos hp]
theorem ord_nil : ord [] = [] := by rw [ord_step]; rfl
end Ma

set_option linter.all false
/-! MaK -/
namespace Ma
open Tr
theorem sup_gen {t l a b α β : List Tr} (hl : Sup l a b) (ht : desc t) (la : lst α = a) (lb : lst β = b) (h1 : leL α (plus t [ofL l])) (h2 : leL β (plus t [ofL l])) (h3 : ∀ d, leL α d → leL β d → ltL t d) : Sup (plus t [ofL l]) α β := by
  refine ⟨imp_iff.2 ⟨h1, ?_⟩, imp_iff.2 ⟨h2, ?_⟩, fun d hn ha hb => ?_⟩
  · rw [lst_plus, kids_ofL, la]; exact hl.one
  · rw [lst_plus, kids_ofL, lb]; exact hl.two
  · have hlt := h3 d ha.le hb.le
    have hne : d ≠ [] := by
      rintro rfl
      cases t <;> simp [ltL, ofL, lt, cmp] at hlt
    have hd := (nf_iff.1 hn).1
    have hn2 : nf (ofL (lst d)) := by
      obtain ⟨q, z, rfl⟩ : ∃ q z, d = q ++ [z] := ⟨d.dropLast, d.getLast hne, (List.dropLast_concat_getLast hne).symm⟩
      rw [lst_snoc, ofL_kids]
      exact (nf_iff.1 hn).2 z (by simp)
    have h4 := hl.least (lst d) hn2 (la ▸ ha.last) (lb ▸ hb.last)
    refine imp_iff.2 ⟨plus_least ht (last_least hd hne h4.le) hlt, ?_⟩
    rw [lst_plus, kids_ofL]; exact h4
theorem sup_two {t l a b a2 b2 : List Tr} (hl : Sup l a b) (ha : desc a2) (hb : desc b2) (h : t = a2 ∨ t = b2) (h1 : leL a2 t) (h2 : leL b2 t) : Sup (plus t [ofL l]) (plus a2 [ofL a]) (plus b2 [ofL b]) := by
  have ht : desc t := by rcases h with rfl | rfl <;> assumption
  refine sup_gen hl ht (by rw [lst_plus, kids_ofL]) (by rw [lst_plus, kids_ofL]) ?_ ?_ fun d g1 g2 => ?_
  · exact leL_trans (plus_mono_right ha (leL_one hl.one.le)) (plus_mono_left ha ht h1)
  · exact leL_trans (plus_mono_right hb (leL_one hl.two.le)) (plus_mono_left hb ht h2)
  · rcases h with rfl | rfl
    · exact lt_of_lt_le (ltL_plus _ ha _) g1
    · exact lt_of_lt_le (ltL_plus _ hb _) g2
/-- a piece alone -/
def Alone (β b : List Tr) : Prop := β = [ofL b] ∨ (β = [] ∧ b = [])
theorem Alone.lst {β b : List Tr} (h : Alone β b) : lst β = b := by
  rcases h with rfl | ⟨rfl, rfl⟩
  · simp
  · rfl
theorem leL_plus (t : List Tr) (y : Tr) : leL [y] (plus t [y]) := by
  rw [plus]
  cases h : t.filter (fun x => le y x) with
  | nil => exact leL_refl _
  | cons z r =>
    have hz : le y z = true := by
      have : z ∈ t.filter (fun x => le y x) := by rw [h]; exact .head _
      simpa using (List.mem_filter.1 this).2
    rw [List.cons_append, leL_cons]
    rcases le_lt_or hz with h1 | h1
    · exact .inl h1
    · exact .inr ⟨h1, nil_leL _⟩
theorem Alone.le {β b l : List Tr} (h : Alone β b) (g : leL b l) (t : List Tr) : leL β (plus t [ofL l]) := by
  rcases h with rfl | ⟨rfl, rfl⟩
  · exact leL_trans (leL_one g) (leL_plus t _)
  · exact nil_leL _
theorem sup_left {l a b a2 β : List Tr} (hl : Sup l a b) (ha : desc a2) (h : Alone β b) : Sup (plus a2 [ofL l]) (plus a2 [ofL a]) β := by
  refine sup_gen hl ha (by rw [lst_plus, kids_ofL]) h.lst ?_ (h.le hl.two.le _) fun d g1 g2 => ?_
  · exact plus_mono_right ha (leL_one hl.one.le)
  · exact lt_of_lt_le (ltL_plus _ ha _) g1
theorem sup_up {l a b α β : List Tr} (hl : Sup l a b) (h1 : Alone α a) (h2 : Alone β b) (hne : α ≠ [] ∨ β ≠ []) : Sup [ofL l] α β := by
  have := sup_gen (t := []) hl .nil h1.lst h2.lst (h1.le hl.one.le _) (h2.le hl.two.le _) fun d g1 g2 => by
    cases d with
    | nil =>
      rcases hne with h | h
      · exact absurd (leL_nil g1) h
      · exact absurd (leL_nil g2) h
    | cons => rfl
  rwa [nil_plus] at this
/-- lowered by s -/
abbrev lws (s : Nat) (w : List Nat) : List Nat := w.map (· - s)
theorem ordS_split {s : Nat} {w v : List Nat} (hp : ∀ x ∈ w, s < x) : ord (lws s (w ++ s :: v)) = plus (ord (lws s v)) [ofL (ord (lws (s + 1) w))] := by
  have e : lws s (w ++ s :: v) = lws s w ++ 0 :: lws s v := by simp
  rw [e, ord_split]
  · congr 4
    rw [low, lws, List.map_map]
    apply List.map_congr_left
    intro x _
    simp [Function.comp]; omega
  · intro x hx
    obtain ⟨y, hy, rfl⟩ := List.mem_map.1 hx
    have := hp y hy; omega
theorem ordS_alone {s : Nat} {w : List Nat} (hp : ∀ x ∈ w, s < x) : Alone (ord (lws s w)) (ord (lws (s + 1) w)) := by
  by_cases hw : w = []
  · subst hw; exact .inr ⟨ord_nil, ord_nil⟩
  · refine .inl ?_
    rw [ord_pos (by simpa using hw) fun x hx => by
      obtain ⟨y, hy, rfl⟩ := List.mem_map.1 hx
      have := hp y hy; omega]
    congr 3
    rw [low, lws, List.map_map]
    apply List.map_congr_left
    intro x _
    simp [Function.comp]; omega
/-- the longest beginning with letters of n and more, and what is behind it -/
abbrev hd (n : Nat) (w : List Nat) : List Nat := w.takeWhile fun x => decide (n ≤ x)
abbrev rs (n : Nat) (w : List Nat) : List Nat := w.dropWhile fun x => decide (n ≤ x)
theorem hd_rs (n : Nat) (w : List Nat) : hd n w ++ rs n w = w := List.takeWhile_append_dropWhile
theorem hd_mem {n : Nat} {w : List Nat} : ∀ x ∈ hd n w, x ∈ w ∧ n ≤ x := fun x hx =>
  ⟨(List.takeWhile_prefix _).subset hx, by simpa using List.all_eq_true.1 (List.all_takeWhile (l := w) (p := fun x => decide (n ≤ x))) x hx⟩
theorem rs_cases {s : Nat} {w : List Nat} (h : ∀ x ∈ w, s ≤ x) : (rs (s + 1) w = [] ∧ hd (s + 1) w = w ∧ s ∉ w) ∨ ∃ v, rs (s + 1) w = s :: v ∧ w = hd (s + 1) w ++ s :: v := by
  have e := hd_rs (s + 1) w
  cases h1 : rs (s + 1) w with
  | nil =>
    rw [h1, List.append_nil] at e
    refine .inl ⟨rfl, e, fun hs => ?_⟩
    rw [← e] at hs
    have := (hd_mem s hs).2
    omega
  | cons y v =>
    have hy : decide (s + 1 ≤ y) = false := by
      have := List.head?_dropWhile_not (fun x => decide (s + 1 ≤ x)) w
      rw [show w.dropWhile (fun x => decide (s + 1 ≤ x)) = y :: v from h1] at this
      simpa using this
    have hyw : y ∈ w := by rw [← e, h1]; simp
    have := h y hyw
    have hy2 := of_decide_eq_false hy
    have : y = s := by omega
    subst this
    exact .inr ⟨v, rfl, by rw [← h1, e]⟩
/-- what stands behind the first letter s of the one that stands no less -/
def tailS (s : Nat) (A B : List Nat) : List Nat :=
  if rs (s + 1) A = [] then (rs (s + 1) B).tail else if rs (s + 1) B = [] then (rs (s + 1) A).tail
  else if Tr.lt (ofL (ord (lws s (rs (s + 1) A).tail))) (ofL (ord (lws s (rs (s + 1) B).tail))) then (rs (s + 1) B).tail else (rs (s + 1) A).tail
/-- both of two, from the number s on -/
def bS : Nat → Nat → List Nat → List Nat → List Nat
  | 0, _, _, _ => []
  | f + 1, s, A, B => if s ∈ A ++ B then bS f (s + 1) (hd (s + 1) A) (hd (s + 1) B) ++ s :: tailS s A B else bS f (s + 1) A B
theorem tail_sub {n : Nat} {w : List Nat} : ∀ x ∈ (rs n w).tail, x ∈ w := fun x hx => (List.dropWhile_sublist _).subset (List.mem_of_mem_tail hx)
theorem tailS_sub {s : Nat} {A B : List Nat} : ∀ x ∈ tailS s A B, x ∈ A ++ B := by
  intro x hx
  unfold tailS at hx
  rw [List.mem_append]
  split at hx
  · exact .inr (tail_sub x hx)
  · split at hx
    · exact .inl (tail_sub x hx)
    · split at hx
      · exact .inr (tail_sub x hx)
      · exact .inl (tail_sub x hx)
theorem bS_sub : ∀ (f s : Nat) (A B : List Nat), ∀ x ∈ bS f s A B, x ∈ A ++ B
  | 0, s, A, B, x, hx => by cases hx
  | f + 1, s, A, B, x, hx => by
    rw [bS] at hx
    split at hx
    · rename_i hs
      rcases List.mem_append.1 hx with h | h
      · have := bS_sub f _ _ _ x h
        rw [List.mem_append] at this ⊢
        rcases this with g | g
        · exact .inl (hd_mem x g).1
        · exact .inr (hd_mem x g).1
      · rcases List.mem_cons.1 h with rfl | h
        · exact hs
        · exact tailS_sub x h
    · exact bS_sub f _ _ _ x hx
theorem tail_len {n : Nat} {w : List Nat} (h : rs n w ≠ []) : (hd n w).length + (rs n w).tail.length + 1 = w.length := by
  have e := congrArg List.length (hd_rs n w)
  rw [List.length_append] at e
  cases g : rs n w with
  | nil => exact absurd g h
  | cons y v => rw [g] at e; simp at e ⊢; omega
theorem hd_len (n : Nat) (w : List Nat) : (hd n w).length ≤ w.length := (List.takeWhile_prefix _).length_le
theorem bS_len : ∀ (f s : Nat) (A B : List Nat), (∀ x ∈ A ++ B, s ≤ x) → (bS f s A B).length ≤ A.length + B.length
  | 0, s, A, B, _ => by simp [bS]
  | f + 1, s, A, B, h => by
    rw [bS]
    have hA : ∀ x ∈ A, s ≤ x := fun x hx => h x (by simp [hx])
    have hB : ∀ x ∈ B, s ≤ x := fun x hx => h x (by simp [hx])
    split
    · rename_i hs
      have ih := bS_len f (s + 1) (hd (s + 1) A) (hd (s + 1) B) fun x hx => by
        rcases List.mem_append.1 hx with g | g
        · exact (hd_mem x g).2
        · exact (hd_mem x g).2
      have a1 := hd_len (s + 1) A
      have b1 := hd_len (s + 1) B
      rw [List.length_append, List.length_cons]
      unfold tailS
      split
      · rename_i hrA
        have hrB : rs (s + 1) B ≠ [] := by
          intro hrB
          rcases rs_cases hA with ⟨_, _, g1⟩ | ⟨v, g1, _⟩
          · rcases rs_cases hB with ⟨_, _, g2⟩ | ⟨v, g2, _⟩
            · simp [g1, g2] at hs
            · rw [hrB] at g2; cases g2
          · rw [hrA] at g1; cases g1
        have := tail_len hrB; omega
      · rename_i hrA
        have a2 := tail_len hrA
        split
        · omega
        · rename_i hrB
          have b2 := tail_len hrB
          split <;> omega
    · rename_i hs
      exact bS_len f (s + 1) A B fun x hx => by
        have := h x hx
        have : x ≠ s := by rintro rfl; exact hs hx
        omega
/-- the order of both -/
theorem sup_bS : ∀ (f s : Nat) (A B : List Nat), s + f = 7 → (∀ x ∈ A ++ B, s ≤ x ∧ x ≤ 6) → Sup (ord (lws s (bS f s A B))) (ord (lws s A)) (ord (lws s B))
  | 0, s, A, B, hf, h => by
    have hA : A = [] := by cases A with | nil => rfl | cons x A => have := h x (by simp); omega
    have hB : B = [] := by cases B with | nil => rfl | cons x B => have := h x (by simp); omega
    subst hA; subst hB
    exact sup_self _
  | f + 1, s, A, B, hf, h => by
    rw [bS]
    have hA : ∀ x ∈ A, s ≤ x := fun x hx => (h x (by simp [hx])).1
    have hB : ∀ x ∈ B, s ≤ x := fun x hx => (h x (by simp [hx])).1
    split
    · rename_i hs
      have hHA : ∀ x ∈ hd (s + 1) A, s < x := fun x hx => (hd_mem x hx).2
      have hHB : ∀ x ∈ hd (s + 1) B, s < x := fun x hx => (hd_mem x hx).2
      have ih := sup_bS f (s + 1) (hd (s + 1) A) (hd (s + 1) B) (by omega) fun x hx => by
        rcases List.mem_append.1 hx with g | g
        · exact ⟨(hd_mem x g).2, (h x (by simp [(hd_mem x g).1])).2⟩
        · exact ⟨(hd_mem x g).2, (h x (by simp [(hd_mem x g).1])).2⟩
      have hC : ∀ x ∈ bS f (s + 1) (hd (s + 1) A) (hd (s + 1) B), s < x := fun x hx => by
        rcases List.mem_append.1 (bS_sub _ _ _ _ x hx) with g | g
        · exact hHA x g
        · exact hHB x g
      rw [ordS_split hC]
      unfold tailS
      rcases rs_cases hA with ⟨a1, a2, a3⟩ | ⟨v, a1, a2⟩
      · rcases rs_cases hB with ⟨b1, b2, b3⟩ | ⟨u, b1, b2⟩
        · simp [a3, b3] at hs
        · rw [if_pos a1, b1, List.tail_cons]
          have eB : ord (lws s B) = plus (ord (lws s u)) [ofL (ord (lws (s + 1) (hd (s + 1) B)))] := by
            conv => lhs; rw [b2]
            exact ordS_split hHB
          rw [eB]
          refine (sup_left ih.symm (desc_ord _) ?_).symm
          have := ordS_alone hHA
          rwa [a2] at this ⊢
      · have eA : ord (lws s A) = plus (ord (lws s v)) [ofL (ord (lws (s + 1) (hd (s + 1) A)))] := by
          conv => lhs; rw [a2]
          exact ordS_split hHA
        rcases rs_cases hB with ⟨b1, b2, b3⟩ | ⟨u, b1, b2⟩
        · rw [if_neg (by rw [a1]; simp), if_pos b1, a1, List.tail_cons, eA]
          refine sup_left ih (desc_ord _) ?_
          have := ordS_alone hHB
          rwa [b2] at this ⊢
        · have eB : ord (lws s B) = plus (ord (lws s u)) [ofL (ord (lws (s + 1) (hd (s + 1) B)))] := by
            conv => lhs; rw [b2]
            exact ordS_split hHB
          rw [if_neg (by rw [a1]; simp), if_neg (by rw [b1]; simp), a1, b1, List.tail_cons, List.tail_cons, eA, eB]
          by_cases hlt : Tr.lt (ofL (ord (lws s v))) (ofL (ord (lws s u))) = true
          · rw [if_pos hlt]
            exact sup_two ih (desc_ord _) (desc_ord _) (.inr rfl) (lt_le hlt) (leL_refl _)
          · rw [if_neg hlt]
            refine sup_two ih (desc_ord _) (desc_ord _) (.inl rfl) (leL_refl _) ?_
            rw [Bool.not_eq_true, lt_not_le] at hlt
            simpa using hlt
    · rename_i hs
      have hgt : ∀ x ∈ A ++ B, s < x := fun x hx => by
        have := (h x hx).1
        have : x ≠ s := by rintro rfl; exact hs hx
        omega
      have hgA : ∀ x ∈ A, s < x := fun x hx => hgt x (by simp [hx])
      have hgB : ∀ x ∈ B, s < x := fun x hx => hgt x (by simp [hx])
      have ih := sup_bS f (s + 1) A B (by omega) fun x hx => ⟨hgt x hx, (h x hx).2⟩
      have hC : ∀ x ∈ bS f (s + 1) A B, s < x := fun x hx => hgt x (bS_sub _ _ _ _ x hx)
      by_cases hAB : A = [] ∧ B = []
      · obtain ⟨rfl, rfl⟩ := hAB
        have e : bS f (s + 1) [] [] = [] := by
          cases h : bS f (s + 1) [] [] with
          | nil => rfl
          | cons x l => have := bS_sub f (s + 1) [] [] x (by rw [h]; exact .head _); simp at this
        rw [e]; exact sup_self _
      · have key := sup_up ih (ordS_alone hgA) (ordS_alone hgB) (by
          by_cases hA0 : A = []
          · exact .inr (ord_ne (by simpa using fun h => hAB ⟨hA0, h⟩))
          · exact .inl (ord_ne (by simpa using hA0)))
        rcases ordS_alone hC with h1 | ⟨h1, h2⟩
        · rw [h1]; exact key
        · rw [h2] at ih
          have i1 := imp_antisymm (imp_nil _) ih.one
          have i2 := imp_antisymm (imp_nil _) ih.two
          have ne : ∀ w : List Nat, ord (lws (s + 1) w) = [] → w = [] := fun w hw => by
            cases w with
            | nil => rfl
            | cons x w => exact absurd hw (ord_ne (by simp))
          exact absurd ⟨ne A i1, ne B i2⟩ hAB
theorem lw_zero (w : List Nat) : lws 0 w = w := by simp [lws]
/-- both of two worms -/
abbrev bth (A B : List Nat) : List Nat := bS 7 0 A B
theorem sup_bth {A B : List Nat} (h : ∀ x ∈ A ++ B, x ≤ 6) : Sup (ord (bth A B)) (ord A) (ord B) := by
  have := sup_bS 7 0 A B rfl fun x hx => ⟨Nat.zero_le _, h x hx⟩
  rwa [lw_zero, lw_zero, lw_zero] at this
theorem bS_from : ∀ (s : Nat) (A B : List Nat), s ≤ 7 → (∀ x ∈ A ++ B, s ≤ x) → bth A B = bS (7 - s) s A B
  | 0, A, B, _, _ => rfl
  | s + 1, A, B, hs, h => by
    rw [bS_from s A B (by omega) fun x hx => by have := h x hx; omega]
    rw [show 7 - s = (7 - (s + 1)) + 1 by omega, bS, if_neg]
    intro hm
    have := h s hm; omega
theorem bS_empty : ∀ (f s : Nat), bS f s [] [] = []
  | 0, s => rfl
  | f + 1, s => by rw [bS, if_neg (by simp), bS_empty f]
/-- as it is reckoned: by the least letter -/
theorem bth_step {A B : List Nat} {n : Nat} (hn : n ∈ A ++ B) (hm : ∀ x ∈ A ++ B, n ≤ x) (h6 : n ≤ 6) : bth A B = bth (hd (n + 1) A) (hd (n + 1) B) ++ n :: tailS n A B := by
  rw [bS_from n A B (by omega) hm, show 7 - n = (7 - (n + 1)) + 1 by omega, bS, if_pos hn]
  congr 1
  rw [← bS_from (n + 1) _ _ (by omega)]
  intro x hx
  rcases List.mem_append.1 hx with g | g
  · exact (hd_mem x g).2
  · exact (hd_mem x g).2
theorem imp_lw {A B : List Nat} {s : Nat} : ∀ (_ : ∀ x ∈ A ++ B, s ≤ x), (Imp (ord A) (ord B) ↔ Imp (ord (lws s A)) (ord (lws s B))) := by
  induction s with
  | zero => intro _; rw [lw_zero, lw_zero]
  | succ s ih =>
    intro h
    have hA : ∀ x ∈ A, s < x := fun x hx => h x (by simp [hx])
    have hB : ∀ x ∈ B, s < x := fun x hx => h x (by simp [hx])
    rw [ih fun x hx => by have := h x hx; omega, imp_iff, (ordS_alone hA).lst, (ordS_alone hB).lst]
    constructor
    · exact fun h => h.2
    · intro h1
      refine ⟨?_, h1⟩
      rcases ordS_alone hB with g | ⟨g, g2⟩
      · rcases ordS_alone hA with k | ⟨k, k2⟩
        · rw [g, k]; exact leL_one h1.le
        · rw [k2] at h1
          have e := leL_nil h1.le
          have : B = [] := by
            cases B with
            | nil => rfl
            | cons x B => exact absurd e (ord_ne (by simp))
          subst this
          rw [show lws s ([] : List Nat) = [] from rfl, ord_nil]; exact nil_leL _
      · rw [g]; exact nil_leL _
theorem hd_big {A : List Nat} {n : Nat} (h : ∀ x ∈ A, x < n) : hdn n A = [] := by
  cases A with
  | nil => rfl
  | cons x A =>
    have := h x (.head _)
    rw [hdn, List.takeWhile_cons, if_neg (by simp; omega)]; rfl
/-- one implies another exactly if at each number to 7 the head is no less -/
theorem imp_heads {A B : List Nat} (h : ∀ x ∈ B, x ≤ 7) : Imp (ord A) (ord B) ↔ ∀ n, n < 8 → leL (ord (hdn n B)) (ord (hdn n A)) := by
  constructor
  · intro g n _
    rw [← lsn_ord, ← lsn_ord]; exact g n
  · intro g n
    rw [lsn_ord, lsn_ord]
    rcases Nat.lt_or_ge n 8 with h1 | h1
    · exact g n h1
    · rw [hd_big (fun x hx => by have := h x hx; omega), ord_nil]; exact nil_leL _
theorem ord_zero_cons (w : List Nat) : ord (0 :: w) = plus (ord w) [nil] := by
  have := ord_split (w := []) (fun _ h => by cases h) w
  rw [List.nil_append, show low [] = [] from rfl, ord_nil] at this
  exact this
/-- above by one -/
theorem imp_next {a b : List Tr} (ha : desc a) (hb : desc b) : Imp b (plus a [nil]) ↔ ltL a b := by
  constructor
  · intro h; exact lt_of_lt_le (ltL_plus a ha _) h.le
  · intro h
    refine imp_iff.2 ⟨plus_least ha (fun y _ => nil_le y) h, ?_⟩
    rw [lst_plus]; exact imp_nil _
theorem imp_both {a b : List Tr} : (Imp a b ∧ Imp b a) ↔ a = b := ⟨fun h => imp_antisymm h.1 h.2, fun h => by subst h; exact ⟨imp_refl _, imp_refl _⟩⟩
/-- it says both exactly if .. -/
theorem bth_eq {A B : List Nat} (h : ∀ x ∈ A ++ B, x ≤ 6) : ord (bth A B) = ord A ↔ Imp (ord A) (ord B) := by
  have s := sup_bth h
  constructor
  · intro e; rw [← e]; exact s.two
  · intro g; exact s.uniq (sup_imp g) (nf_ord _) (nf_ord _)
end Ma

set_option linter.all false
set_option maxRecDepth 100000
/-! Wk10 -/
namespace Wk
open PM PY Fn Ma
open PySem (Str)
variable {P : Pr}
abbrev S_head_at (P : Pr) := ∀ (n : Nat) (w : List Nat) (k : Nat) (m : Mu), w.length ≤ 1000 → 1 ≤ k → callN P k "head_at" [.val (.int n), .val (dW w)] m = some (.ok (.val (.tup [dW (hd n w), dW (rs n w)])) false m)
theorem t_head_at (fd_head_at : P.fd "head_at" = some f_head_at) : S_head_at P := by
  intro n w k m h hk
  obtain ⟨k, rfl, hj⟩ := at_succ hk
  rw [callN_at fd_head_at _ _ _ rfl]
  simp -implicitDefEqProofs [f_head_at]
  have hle : (hd n w).length ≤ w.length := hd_len n w
  refine whE_inv (Q := fun x => fin _ (seqS x _) = _) (fun c r m' => m' = m ∧ ∃ i : Nat, i + c = (hd n w).length ∧ r = [some (.val (.int n)), some (.val (dW w)), some (.val (.int i))]) ?_ _ _ _ ⟨rfl, 0, Nat.zero_add _, rfl⟩
  rintro c r m' ⟨rfl, i, hi, rfl⟩
  obtain ⟨u1, u2, u3, u4⟩ := take_while_at (fun x => decide (n ≤ x)) w i (show i ≤ (hd n w).length by omega)
  by_cases hlt : i < (hd n w).length
  · obtain ⟨h1, h2⟩ := u1 hlt
    have h3 : ((n : Nat) : Int) ≤ ((w[i] : Nat) : Int) := by have := of_decide_eq_true h2; omega
    have h5 : cop .Lt (.int ((i : Nat) : Int)) (.int ((w.length : Nat) : Int)) = some true := by rw [cop_lt, decide_eq_true (by omega)]
    have h6 : cop .GtE (.int ((w[i] : Nat) : Int)) (.int n) = some true := by rw [cop_ge, decide_eq_true h3]
    have h7 := idx_W h1
    generalize w[i] = wi at *
    refine ⟨true, false, m', ?_, fun z => (by cases z), fun _ => ?_⟩
    · simp -implicitDefEqProofs [-cop_ge, -cop_lt, h5, h6, h7]
    · simp -implicitDefEqProofs []
      exact ⟨c - 1, by omega, i + 1, by omega, by simp⟩
  · have hi2 : i = (hd n w).length := by omega
    refine ⟨false, false, m', ?_, fun _ => ?_, fun z => by cases z⟩
    · by_cases h1 : i < w.length
      · have h3 := of_decide_eq_false (u2 hi2 h1)
        have h5 : cop .Lt (.int ((i : Nat) : Int)) (.int ((w.length : Nat) : Int)) = some true := by rw [cop_lt, decide_eq_true (by omega)]
        have h6 : cop .GtE (.int ((w[i] : Nat) : Int)) (.int n) = some false := by rw [cop_ge, decide_eq_false (by omega)]
        have h7 := idx_W h1
        generalize w[i] = wi at *
        simp -implicitDefEqProofs [-cop_ge, -cop_lt, h5, h6, h7]
      · have h5 : cop .Lt (.int ((i : Nat) : Int)) (.int ((w.length : Nat) : Int)) = some false := by rw [cop_lt, decide_eq_false (by omega)]
        simp -implicitDefEqProofs [-cop_ge, -cop_lt, h5]
    · have s1 := slcW_to w i
      have s2 := slcW_from w i
      rw [hi2] at s1 s2
      rw [u3] at s1
      rw [u4] at s2
      subst hi2
      simp -implicitDefEqProofs [s1, s2]
theorem lwI (w : List Nat) (n : Nat) (h : ∀ x ∈ w, n ≤ x) : dI ((w.map fun (n : Nat) => (n : Int)).map (· - (n : Int))) = dW (lws n w) := by
  rw [dW_dI, List.map_map, lws, List.map_map]
  congr 1
  apply List.map_congr_left
  intro x hx
  have := h x hx
  simp [Function.comp]; omega
abbrev S_order_at (P : Pr) := ∀ (n : Nat) (w : List Nat) (k : Nat) (m : Mu), (∀ x ∈ w, n ≤ x ∧ x ≤ 6) → w.length ≤ 1000 → 15 ≤ k → callN P k "order_at" [.val (.int n), .val (dW w)] m = some (.ok (.val (dL (ord (lws n w)))) false m)
theorem t_order_at (fd_order_at : P.fd "order_at" = some f_order_at) (s_order_in : S_order_in P) (s_lowered_in : S_lowered_in P) : S_order_at P := by
  intro n w k m h hl hk
  obtain ⟨k, rfl, hj⟩ := at_succ hk
  rw [callN_at fd_order_at _ _ _ rfl]
  have e1 := s_lowered_in (w.map fun (n : Nat) => (n : Int)) n k m (by simp [line]; omega) (by omega)
  rw [lwI w n fun x hx => (h x hx).1, ← dW_dI] at e1
  have h6 : ∀ x ∈ lws n w, x ≤ 6 := fun x hx => by
    obtain ⟨y, hy, rfl⟩ := List.mem_map.1 hx
    have := (h y hy).2; omega
  have e2 := s_order_in 6 (lws n w) k m h6 (by omega) (by have := wt_len h6; simp at this; omega) (by simpa using hl) (by omega)
  simp -implicitDefEqProofs [f_order_at, e1, e2]
abbrev S_less_at (P : Pr) := ∀ (n : Nat) (a b : List Nat) (k : Nat) (m : Mu), (∀ x ∈ a, n ≤ x ∧ x ≤ 6) → (∀ x ∈ b, n ≤ x ∧ x ≤ 6) → a.length ≤ 1000 → b.length ≤ 1000 → 16 ≤ k →
  callN P k "less_at" [.val (.int n), .val (dW a), .val (dW b)] m = some (.ok (.val (.bl (Tr.lt (Tr.ofL (ord (lws n a))) (Tr.ofL (ord (lws n b)))))) false m)
theorem ht_lw {n : Nat} {w : List Nat} (h : ∀ x ∈ w, x ≤ 6) : ht (Tr.ofL (ord (lws n w))) ≤ 7 := ht_ordF 6 _ fun x hx => by
    obtain ⟨y, hy, rfl⟩ := List.mem_map.1 hx
    have := h y hy; omega
theorem t_less_at (fd_less_at : P.fd "less_at" = some f_less_at) (s_order_at : S_order_at P) : S_less_at P := by
  intro n a b k m ha hb la lb hk
  obtain ⟨k, rfl, hj⟩ := at_succ hk
  rw [callN_at fd_less_at _ _ _ rfl]
  have e1 := s_order_at n a k m ha la (by omega)
  have e2 := s_order_at n b k m hb lb (by omega)
  have e3 := cop_lt_dL (ord (lws n a)) (ord (lws n b)) (.inl (by have := ht_lw (n := n) fun x hx => (ha x hx).2; omega))
  simp -implicitDefEqProofs [f_less_at, e1, e2, e3]
abbrev Lt7 (w : List Nat) : Prop := ∀ x ∈ w, x ≤ 6
theorem rs_len (n : Nat) (w : List Nat) : (rs n w).length ≤ w.length := (List.dropWhile_sublist _).length_le
theorem rs_mem {n : Nat} {w : List Nat} : ∀ x ∈ rs n w, x ∈ w := fun x hx => (List.dropWhile_sublist _).subset hx
theorem tailS_len (s : Nat) (A B : List Nat) (n : Nat) (h : A.length ≤ n) (g : B.length ≤ n) : (tailS s A B).length ≤ n := by
  have a1 := rs_len (s + 1) A
  have b1 := rs_len (s + 1) B
  unfold tailS
  split
  · simp; omega
  · split
    · simp; omega
    · split <;> simp <;> omega
abbrev S_both_raw (P : Pr) := ∀ (f : Nat) (A B : List Nat) (k : Nat) (m : Mu), f ≤ 7 → (∀ x ∈ A ++ B, 7 - f ≤ x ∧ x ≤ 6) → A.length ≤ 500 → B.length ≤ 500 → f + 17 ≤ k → callN P k "both_raw" [.val (dW A), .val (dW B)] m = some (.ok (.val (dW (bth A B))) false m)
theorem t_both_raw (fd_both_raw : P.fd "both_raw" = some f_both_raw) (s_head_at : S_head_at P) (s_less_at : S_less_at P) : S_both_raw P := by
  intro f
  induction f with
  | zero =>
    intro A B k m hf h lA lB hk
    obtain ⟨k, rfl, hj⟩ := at_succ hk
    have hA : A = [] := by cases A with | nil => rfl | cons x A => have := h x (by simp); omega
    have hB : B = [] := by cases B with | nil => rfl | cons x B => have := h x (by simp); omega
    subst hA; subst hB
    rw [callN_at fd_both_raw _ _ _ rfl]
    have c1 := cat_W (a := []) (b := []) (by simp)
    have e1 := eq_nilW []
    rw [show bth [] [] = [] from bS_empty 7 0]
    rw [show ([] : List Nat) ++ [] = [] from rfl] at c1
    rw [decide_eq_true rfl] at e1
    simp only [f_both_raw]
    have e0 : dW [] = .tup [] := rfl
    generalize dW [] = d0 at *
    subst e0
    simp -implicitDefEqProofs [c1, e1]
  | succ f ih =>
    intro A B k m hf h lA lB hk
    by_cases hs : 6 - f ∈ A ++ B
    · obtain ⟨k, rfl, hj⟩ := at_succ (n := f + 17) (by omega)
      rw [callN_at fd_both_raw _ _ _ rfl]
      obtain ⟨n, hn⟩ : ∃ n, n = 6 - f := ⟨_, rfl⟩
      rw [← hn] at hs
      have hmin : ∀ x ∈ A ++ B, n ≤ x := fun x hx => by have := (h x hx).1; omega
      have hne : A ++ B ≠ [] := fun e => by rw [e] at hs; cases hs
      have c1 := cat_W (a := A) (b := B) (by omega)
      have e1 := eq_nilW (A ++ B)
      rw [decide_eq_false hne] at e1
      obtain ⟨n', g1, g2, g3⟩ := min_W hne
      have : n' = n := by have := g3 n hs; have := hmin n' g2; omega
      subst this
      have en : ((n' : Nat) : Int) + 1 = ((n' + 1 : Nat) : Int) := by omega
      have hA := s_head_at (n' + 1) A k m (by omega) (by omega)
      have hB := s_head_at (n' + 1) B k m (by omega) (by omega)
      rw [← en] at hA hB
      have ht := bth_step hs hmin (by omega)
      have hih := ih (hd (n' + 1) A) (hd (n' + 1) B) k m (by omega) (fun x hx => by
        rcases List.mem_append.1 hx with g | g
        · have := hd_mem x g; have := (h x (by simp [this.1])).2; omega
        · have := hd_mem x g; have := (h x (by simp [this.1])).2; omega) (by have := hd_len (n' + 1) A; omega) (by have := hd_len (n' + 1) B; omega) (by omega)
      have hbl : (bth (hd (n' + 1) A) (hd (n' + 1) B)).length ≤ 1000 := by
        have := bS_len 7 0 (hd (n' + 1) A) (hd (n' + 1) B) fun _ _ => Nat.zero_le _
        have := hd_len (n' + 1) A
        have := hd_len (n' + 1) B
        show (bS 7 0 (hd (n' + 1) A) (hd (n' + 1) B)).length ≤ 1000
        omega
      have htl := tailS_len n' A B 500 lA lB
      have rA := rs_len (n' + 1) A
      have rB := rs_len (n' + 1) B
      have mA : ∀ x ∈ (rs (n' + 1) A).tail, n' ≤ x ∧ x ≤ 6 := fun x hx => by
        have hx2 : x ∈ A ++ B := by simp [tail_sub x hx]
        exact ⟨hmin x hx2, (h x hx2).2⟩
      have mB : ∀ x ∈ (rs (n' + 1) B).tail, n' ≤ x ∧ x ≤ 6 := fun x hx => by
        have hx2 : x ∈ A ++ B := by simp [tail_sub x hx]
        exact ⟨hmin x hx2, (h x hx2).2⟩
      have hl := s_less_at n' (rs (n' + 1) A).tail (rs (n' + 1) B).tail k m mA mB (by simp; omega) (by simp; omega) (by omega)
      rw [ht]
      rw [tailS] at htl ⊢
      have q1 := eq_nilW (rs (n' + 1) A)
      have q2 := eq_nilW (rs (n' + 1) B)
      have q3 := slcW_1 (rs (n' + 1) A)
      have q4 := slcW_1 (rs (n' + 1) B)
      have v1 : ∀ t : List Nat, t.length ≤ 500 → bop .Add (dW (bth (hd (n' + 1) A) (hd (n' + 1) B))) (.tup [.int n']) = some (dW (bth (hd (n' + 1) A) (hd (n' + 1) B) ++ [n']), false) ∧ bop .Add (dW (bth (hd (n' + 1) A) (hd (n' + 1) B) ++ [n'])) (dW t) = some (dW (bth (hd (n' + 1) A) (hd (n' + 1) B) ++ n' :: t), false) := fun t ht => by
        constructor
        · exact cat_W (a := bth (hd (n' + 1) A) (hd (n' + 1) B)) (b := [n']) (by simp; omega)
        · have := cat_W (a := bth (hd (n' + 1) A) (hd (n' + 1) B) ++ [n']) (b := t) (by simp; omega)
          rwa [List.append_assoc, List.singleton_append] at this
      have v2 := fun t ht => (v1 t ht).1
      have v3 := fun t ht => (v1 t ht).2
      clear v1
      generalize bth (hd (n' + 1) A) (hd (n' + 1) B) = C at *
      generalize hdA : hd (n' + 1) A = hA' at *
      generalize hdB : hd (n' + 1) B = hB' at *
      have v2 := v2 [] (by simp)
      by_cases hA0 : rs (n' + 1) A = []
      · rw [if_pos hA0] at htl ⊢
        rw [decide_eq_true hA0] at q1
        have v3 := v3 _ htl
        generalize rs (n' + 1) A = RA at *
        generalize rs (n' + 1) B = RB at *
        generalize RB.tail = TB at *
        generalize RA.tail = TA at *
        generalize dW A = dA at *
        generalize dW B = dB at *
        generalize dW (A ++ B) = dAB at *
        generalize dW RA = dRA at *
        generalize dW RB = dRB at *
        generalize dW TB = dTB at *
        generalize dW hA' = dhA at *
        generalize dW hB' = dhB at *
        generalize dW C = dC at *
        generalize dW (C ++ [n']) = dCn at *
        generalize dW (C ++ n' :: TB) = dR at *
        simp -implicitDefEqProofs [f_both_raw, c1, e1, g1, hA, hB, q1, q4, hih, v2, v3, setdT_2]
      · rw [if_neg hA0] at htl ⊢
        rw [decide_eq_false hA0] at q1
        by_cases hB0 : rs (n' + 1) B = []
        · rw [if_pos hB0] at htl ⊢
          rw [decide_eq_true hB0] at q2
          have v3 := v3 _ htl
          generalize rs (n' + 1) A = RA at *
          generalize rs (n' + 1) B = RB at *
          generalize RB.tail = TB at *
          generalize RA.tail = TA at *
          generalize dW A = dA at *
          generalize dW B = dB at *
          generalize dW (A ++ B) = dAB at *
          generalize dW RA = dRA at *
          generalize dW RB = dRB at *
          generalize dW TA = dTA at *
          generalize dW hA' = dhA at *
          generalize dW hB' = dhB at *
          generalize dW C = dC at *
          generalize dW (C ++ [n']) = dCn at *
          generalize dW (C ++ n' :: TA) = dR at *
          simp -implicitDefEqProofs [f_both_raw, c1, e1, g1, hA, hB, q1, q2, q3, hih, v2, v3, setdT_2]
        · rw [if_neg hB0] at htl ⊢
          rw [decide_eq_false hB0] at q2
          cases hlt : Tr.lt (Tr.ofL (ord (lws n' (rs (n' + 1) A).tail))) (Tr.ofL (ord (lws n' (rs (n' + 1) B).tail))) with
          | true =>
            rw [hlt] at hl htl
            rw [if_pos rfl] at htl ⊢
            have v3 := v3 _ htl
            generalize rs (n' + 1) A = RA at *
            generalize rs (n' + 1) B = RB at *
            generalize RB.tail = TB at *
            generalize RA.tail = TA at *
            generalize dW A = dA at *
            generalize dW B = dB at *
            generalize dW (A ++ B) = dAB at *
            generalize dW RA = dRA at *
            generalize dW RB = dRB at *
            generalize dW TA = dTA at *
            generalize dW TB = dTB at *
            generalize dW hA' = dhA at *
            generalize dW hB' = dhB at *
            generalize dW C = dC at *
            generalize dW (C ++ [n']) = dCn at *
            generalize dW (C ++ n' :: TB) = dR at *
            simp -implicitDefEqProofs [f_both_raw, c1, e1, g1, hA, hB, q1, q2, q3, q4, hl, hih, v2, v3, setdT_2]
          | false =>
            rw [hlt] at hl htl
            rw [if_neg (by simp)] at htl ⊢
            have v3 := v3 _ htl
            generalize rs (n' + 1) A = RA at *
            generalize rs (n' + 1) B = RB at *
            generalize RB.tail = TB at *
            generalize RA.tail = TA at *
            generalize dW A = dA at *
            generalize dW B = dB at *
            generalize dW (A ++ B) = dAB at *
            generalize dW RA = dRA at *
            generalize dW RB = dRB at *
            generalize dW TA = dTA at *
            generalize dW TB = dTB at *
            generalize dW hA' = dhA at *
            generalize dW hB' = dhB at *
            generalize dW C = dC at *
            generalize dW (C ++ [n']) = dCn at *
            generalize dW (C ++ n' :: TA) = dR at *
            simp -implicitDefEqProofs [f_both_raw, c1, e1, g1, hA, hB, q1, q2, q3, q4, hl, hih, v2, v3, setdT_2]
    · refine ih A B k m (by omega) (fun x hx => ?_) lA lB (by omega)
      have h1 := h x hx
      have : x ≠ 6 - f := by rintro rfl; exact hs hx
      omega
end Wk

set_option linter.all false
set_option maxRecDepth 100000
/-! Wk11 -/
namespace Wk
open PM PY Fn Ma
open PySem (Str)
variable {P : Pr}
/-- the form of what says both -/
abbrev bt (A B : List Nat) : List Nat := wrm (Tr.ofL (ord (bth A B)))
theorem bth_lt {A B : List Nat} (hA : Lt7 A) (hB : Lt7 B) : Lt7 (bth A B) := fun x hx => by
  rcases List.mem_append.1 (bS_sub _ _ _ _ x hx) with h | h
  · exact hA x h
  · exact hB x h
theorem bth_len (A B : List Nat) : (bth A B).length ≤ A.length + B.length := bS_len 7 0 A B fun _ _ => Nat.zero_le _
theorem bt_len (A B : List Nat) : (bt A B).length ≤ A.length + B.length := Nat.le_trans (len_form _) (bth_len A B)
theorem form_lt {w : List Nat} (h : Lt7 w) : Lt7 (wrm (Tr.ofL (ord w))) := fun x hx => by
  have := wrm_letters _ x hx
  have := ht_ordF 6 w h
  omega
theorem bt_lt {A B : List Nat} (hA : Lt7 A) (hB : Lt7 B) : Lt7 (bt A B) := form_lt (bth_lt hA hB)
theorem ord_form (w : List Nat) : ord (wrm (Tr.ofL (ord w))) = ord w := Tr.ofL_inj (ord_wrm _ (nf_ord w))
theorem nodes_le {w : List Nat} (h : Lt7 w) : nodes (Tr.ofL (ord w)) ≤ 7 * w.length + 1 := by have := nodes_ord w; have := wt_len h; omega
abbrev S_both_in (P : Pr) := ∀ (A B : List Nat) (k : Nat) (m : Mu), Lt7 A → Lt7 B → A.length + B.length ≤ 140 → 26 ≤ k → callN P k "both_in" [.val (dW A), .val (dW B)] m = some (.ok (.val (dW (bt A B))) false m)
theorem t_both_in (fd_both_in : P.fd "both_in" = some f_both_in) (s_both_raw : S_both_raw P) (s_form_in : S_form_in P) : S_both_in P := by
  intro A B k m hA hB hl hk
  obtain ⟨k, rfl, hj⟩ := at_succ hk
  rw [callN_at fd_both_in _ _ _ rfl]
  have e1 := s_both_raw 7 A B k m (by omega) (fun x hx => ⟨by omega, by
    rcases List.mem_append.1 hx with h | h
    · exact hA x h
    · exact hB x h⟩) (by omega) (by omega) (by omega)
  have l1 := bth_len A B
  have h1 := bth_lt hA hB
  have n1 := nodes_le h1
  have e2 := s_form_in (bth A B) k m ⟨by omega, h1⟩ (by omega) (by omega)
  simp -implicitDefEqProofs [f_both_in, e1, e2]
abbrev S_implies_in (P : Pr) := ∀ (A B : List Nat) (k : Nat) (m : Mu), Lt7 A → Lt7 B → A.length + B.length ≤ 140 → 26 ≤ k → callN P k "implies_in" [.val (dW A), .val (dW B)] m = some (.ok (.val (.bl (decide (ord (bth A B) = ord A)))) false m)
theorem t_implies_in (fd_implies_in : P.fd "implies_in" = some f_implies_in) (s_both_raw : S_both_raw P) (s_order_in : S_order_in P) : S_implies_in P := by
  intro A B k m hA hB hl hk
  obtain ⟨k, rfl, hj⟩ := at_succ hk
  rw [callN_at fd_implies_in _ _ _ rfl]
  have e1 := s_both_raw 7 A B k m (by omega) (fun x hx => ⟨by omega, by
    rcases List.mem_append.1 hx with h | h
    · exact hA x h
    · exact hB x h⟩) (by omega) (by omega) (by omega)
  have l1 := bth_len A B
  have h1 := bth_lt hA hB
  have e2 := s_order_in 6 (bth A B) k m h1 (by omega) (by have := wt_len h1; omega) (by omega) (by omega)
  have e3 := s_order_in 6 A k m hA (by omega) (by have := wt_len hA; omega) (by omega) (by omega)
  have e4 := cop_eq_dL' (ord (bth A B)) (ord A) (.inr (by have := ht_ordF 6 A hA; omega))
  simp -implicitDefEqProofs [f_implies_in, e1, e2, e3, e4]
abbrev S_need_worms (P : Pr) := ∀ (A B : List Nat) (k : Nat) (m : Mu), WormOk A → WormOk B → 66 ≤ k → callN P k "need_worms" [.val (dW A), .val (dW B)] m = some (.ok (.val .non) false m)
theorem t_need_worms (fd_need_worms : P.fd "need_worms" = some f_need_worms) (s_need_worm : S_need_worm P) : S_need_worms P := by
  intro A B k m hA hB hk
  obtain ⟨k, rfl, hj⟩ := at_succ hk
  rw [callN_at fd_need_worms _ _ _ rfl]
  have e1 := s_need_worm A k m hA (by omega)
  have e2 := s_need_worm B k m hB (by omega)
  simp -implicitDefEqProofs [f_need_worms, e1, e2]
abbrev S_need_wormsX (P : Pr) := ∀ (a b : D) (k : Nat) (m : Mu), Okd a → 66 ≤ k → (wormB a = false → callN P k "need_worms" [.val a, .val b] m = refuse "InvalidWorm" a m) ∧ (wormB a = true → Okd b → wormB b = false → callN P k "need_worms" [.val a, .val b] m = refuse "InvalidWorm" b m)
theorem t_need_wormsX (fd_need_worms : P.fd "need_worms" = some f_need_worms) (s_need_worm : S_need_wormG P) : S_need_wormsX P := by
  intro a b k m ha hk
  obtain ⟨k, rfl, hj⟩ := at_succ hk
  rw [callN_at fd_need_worms _ _ _ rfl]
  have e1 := s_need_worm a k m ha (by omega)
  constructor
  · intro h
    rw [h] at e1
    simp at e1
    simp -implicitDefEqProofs [f_need_worms, e1, refuse]
  · intro h hb g
    have e2 := s_need_worm b k m hb (by omega)
    rw [h] at e1
    rw [g] at e2
    simp at e1 e2
    simp -implicitDefEqProofs [f_need_worms, e1, e2, refuse]
abbrev S_both (P : Pr) := ∀ (A B : List Nat) (k : Nat) (m : Mu), Lt7 A → Lt7 B → A.length + B.length ≤ 140 → 67 ≤ k → callN P k "both" [.val (dW A), .val (dW B)] m = some (.ok (.val (dW (bt A B))) false m)
theorem t_both (fd_both : P.fd "both" = some f_both) (s_need_worms : S_need_worms P) (s_both_in : S_both_in P) : S_both P := by
  intro A B k m hA hB hl hk
  obtain ⟨k, rfl, hj⟩ := at_succ hk
  rw [callN_at fd_both _ _ _ rfl]
  have e1 := s_need_worms A B k m ⟨by omega, hA⟩ ⟨by omega, hB⟩ (by omega)
  have e2 := s_both_in A B k m hA hB hl (by omega)
  simp -implicitDefEqProofs [f_both, e1, e2]
abbrev S_implies (P : Pr) := ∀ (A B : List Nat) (k : Nat) (m : Mu), Lt7 A → Lt7 B → A.length + B.length ≤ 140 → 67 ≤ k → callN P k "implies" [.val (dW A), .val (dW B)] m = some (.ok (.val (.bl (decide (ord (bth A B) = ord A)))) false m)
theorem t_implies (fd_implies : P.fd "implies" = some f_implies) (s_need_worms : S_need_worms P) (s_implies_in : S_implies_in P) : S_implies P := by
  intro A B k m hA hB hl hk
  obtain ⟨k, rfl, hj⟩ := at_succ hk
  rw [callN_at fd_implies _ _ _ rfl]
  have e1 := s_need_worms A B k m ⟨by omega, hA⟩ ⟨by omega, hB⟩ (by omega)
  have e2 := s_implies_in A B k m hA hB hl (by omega)
  simp -implicitDefEqProofs [f_implies, e1, e2]
/-- a refusal by two worms -/
abbrev S_wwX (f : Str) (P : Pr) := ∀ (a b : D) (k : Nat) (m : Mu), Okd a → 67 ≤ k → (wormB a = false → callN P k f [.val a, .val b] m = refuse "InvalidWorm" a m) ∧ (wormB a = true → Okd b → wormB b = false → callN P k f [.val a, .val b] m = refuse "InvalidWorm" b m)
abbrev S_bothX (P : Pr) := S_wwX "both" P
abbrev S_impliesX (P : Pr) := S_wwX "implies" P
theorem t_bothX (fd_both : P.fd "both" = some f_both) (s_need_worms : S_need_wormsX P) : S_bothX P := by
  intro a b k m ha hk
  obtain ⟨k, rfl, hj⟩ := at_succ hk
  rw [callN_at fd_both _ _ _ rfl]
  obtain ⟨e1, e2⟩ := s_need_worms a b k m ha (by omega)
  constructor
  · intro h
    have e1 := e1 h
    rw [refuse] at e1
    simp -implicitDefEqProofs [f_both, e1, refuse]
  · intro h hb g
    have e2 := e2 h hb g
    rw [refuse] at e2
    simp -implicitDefEqProofs [f_both, e2, refuse]
theorem t_impliesX (fd_implies : P.fd "implies" = some f_implies) (s_need_worms : S_need_wormsX P) : S_impliesX P := by
  intro a b k m ha hk
  obtain ⟨k, rfl, hj⟩ := at_succ hk
  rw [callN_at fd_implies _ _ _ rfl]
  obtain ⟨e1, e2⟩ := s_need_worms a b k m ha (by omega)
  constructor
  · intro h
    have e1 := e1 h
    rw [refuse] at e1
    simp -implicitDefEqProofs [f_implies, e1, refuse]
  · intro h hb g
    have e2 := e2 h hb g
    rw [refuse] at e2
    simp -implicitDefEqProofs [f_implies, e2, refuse]
/-- head and rest -/
abbrev S_head (P : Pr) := ∀ (n : Nat) (w : List Nat) (k : Nat) (m : Mu), n ≤ 7 → WormOk w → 66 ≤ k → callN P k "head" [.val (.int n), .val (dW w)] m = some (.ok (.val (dW (hd n w))) false m)
theorem t_head (fd_head : P.fd "head" = some f_head) (s_need_number : S_need_number P) (s_need_worm : S_need_worm P) (s_head_at : S_head_at P) (gl_MOST_LETTER : P.glob "MOST_LETTER" = some (.int 6)) : S_head P := by
  intro n w k m hn hw hk
  obtain ⟨k, rfl, hj⟩ := at_succ hk
  rw [callN_at fd_head _ _ _ rfl]
  have e1 := s_need_number n 0 7 k m (by omega) (by omega) (by omega)
  have e2 := s_need_worm w k m hw (by omega)
  have e3 := s_head_at n w k m (by have := hw.1; omega) (by omega)
  have e4 : idxD (.tup [dW (hd n w), dW (rs n w)]) (.int 0) = some (dW (hd n w)) := idx_head _ _
  generalize dW (hd n w) = d1 at *
  generalize dW (rs n w) = d2 at *
  simp -implicitDefEqProofs [f_head, Pr.g, gl_MOST_LETTER, e1, e2, e3, e4]
abbrev S_rest (P : Pr) := ∀ (n : Nat) (w : List Nat) (k : Nat) (m : Mu), n ≤ 7 → WormOk w → 66 ≤ k → callN P k "rest" [.val (.int n), .val (dW w)] m = some (.ok (.val (dW (rs n w))) false m)
theorem idx_snd (x y : D) (l : List D) : idxD (.tup (x :: y :: l)) (.int 1) = some y := by
  simp [idxD, atD, ixN]; rw [if_pos (by omega)]; simp
theorem t_rest (fd_rest : P.fd "rest" = some f_rest) (s_need_number : S_need_number P) (s_need_worm : S_need_worm P) (s_head_at : S_head_at P) (gl_MOST_LETTER : P.glob "MOST_LETTER" = some (.int 6)) : S_rest P := by
  intro n w k m hn hw hk
  obtain ⟨k, rfl, hj⟩ := at_succ hk
  rw [callN_at fd_rest _ _ _ rfl]
  have e1 := s_need_number n 0 7 k m (by omega) (by omega) (by omega)
  have e2 := s_need_worm w k m hw (by omega)
  have e3 := s_head_at n w k m (by have := hw.1; omega) (by omega)
  have e4 : idxD (.tup [dW (hd n w), dW (rs n w)]) (.int 1) = some (dW (rs n w)) := idx_snd _ _ _
  generalize dW (hd n w) = d1 at *
  generalize dW (rs n w) = d2 at *
  simp -implicitDefEqProofs [f_rest, Pr.g, gl_MOST_LETTER, e1, e2, e3, e4]
abbrev S_nwX (f : Str) (P : Pr) := ∀ (n : Int) (d : D) (k : Nat) (m : Mu), 66 ≤ k → (¬ (0 ≤ n ∧ n ≤ 7) → callN P k f [.val (.int n), .val d] m = refuse "InvalidNumber" (.int n) m) ∧ (0 ≤ n ∧ n ≤ 7 → Okd d → wormB d = false → callN P k f [.val (.int n), .val d] m = refuse "InvalidWorm" d m)
abbrev S_headX (P : Pr) := S_nwX "head" P
abbrev S_restX (P : Pr) := S_nwX "rest" P
theorem t_headX (fd_head : P.fd "head" = some f_head) (s_need_number : S_need_numberG P) (s_need_worm : S_need_wormG P) (gl_MOST_LETTER : P.glob "MOST_LETTER" = some (.int 6)) : S_headX P := by
  intro n d k m hk
  obtain ⟨k, rfl, hj⟩ := at_succ hk
  rw [callN_at fd_head _ _ _ rfl]
  have e1 := s_need_number n 0 7 k m (by omega)
  constructor
  · intro h
    rw [if_neg h] at e1
    rw [refuse] at e1
    simp -implicitDefEqProofs [f_head, Pr.g, gl_MOST_LETTER, e1, refuse]
  · intro h hd g
    rw [if_pos h] at e1
    have e2 := s_need_worm d k m hd (by omega)
    rw [g] at e2
    simp only [Bool.false_eq_true, if_false, refuse] at e2
    simp -implicitDefEqProofs [f_head, Pr.g, gl_MOST_LETTER, e1, e2, refuse]
theorem t_restX (fd_rest : P.fd "rest" = some f_rest) (s_need_number : S_need_numberG P) (s_need_worm : S_need_wormG P) (gl_MOST_LETTER : P.glob "MOST_LETTER" = some (.int 6)) : S_restX P := by
  intro n d k m hk
  obtain ⟨k, rfl, hj⟩ := at_succ hk
  rw [callN_at fd_rest _ _ _ rfl]
  have e1 := s_need_number n 0 7 k m (by omega)
  constructor
  · intro h
    rw [if_neg h] at e1
    rw [refuse] at e1
    simp -implicitDefEqProofs [f_rest, Pr.g, gl_MOST_LETTER, e1, refuse]
  · intro h hd g
    rw [if_pos h] at e1
    have e2 := s_need_worm d k m hd (by omega)
    rw [g] at e2
    simp only [Bool.false_eq_true, if_false, refuse] at e2
    simp -implicitDefEqProofs [f_rest, Pr.g, gl_MOST_LETTER, e1, e2, refuse]
/-- worms with letters of n and more -/
abbrev S_need_letters (P : Pr) := ∀ (n : Nat) (d : D) (k : Nat) (m : Mu), Okd d → 66 ≤ k → (wormB d = false → callN P k "need_letters" [.val (.int n), .val d] m = refuse "InvalidWorm" d m) ∧
  (∀ w, d = dW w → WormOk w → callN P k "need_letters" [.val (.int n), .val d] m = if rs n w = [] then some (.ok (.val .non) false m) else refuse "InvalidWorm" d m)
theorem t_need_letters (fd_need_letters : P.fd "need_letters" = some f_need_letters) (s_need_worm : S_need_wormG P) (s_head_at : S_head_at P) (s_anew : S_anew P) : S_need_letters P := by
  intro n d k m h hk
  obtain ⟨k, rfl, hj⟩ := at_succ hk
  rw [callN_at fd_need_letters _ _ _ rfl]
  have e1 := s_need_worm d k m h (by omega)
  constructor
  · intro g
    rw [g] at e1
    simp only [Bool.false_eq_true, if_false, refuse] at e1
    simp -implicitDefEqProofs [f_need_letters, e1, refuse]
  · rintro w rfl hw
    rw [wormB_W.2 hw, if_pos rfl] at e1
    have e3 := s_head_at n w k m (by have := hw.1; omega) (by omega)
    have e4 : idxD (.tup [dW (hd n w), dW (rs n w)]) (.int 1) = some (dW (rs n w)) := idx_snd _ _ _
    have e5 := ne_nilW (rs n w)
    obtain ⟨fr, e6⟩ := s_anew 60 (dW w) k m h.pl h.dp h.sz (by omega)
    by_cases g : rs n w = []
    · rw [if_pos g]
      rw [decide_eq_true g] at e5
      generalize dW w = dw at *
      generalize dW (hd n w) = d1 at *
      generalize dW (rs n w) = d2 at *
      simp -implicitDefEqProofs [f_need_letters, e1, e3, e4, e5]
    · rw [if_neg g]
      rw [decide_eq_false g] at e5
      generalize dW w = dw at *
      generalize dW (hd n w) = d1 at *
      generalize dW (rs n w) = d2 at *
      simp -implicitDefEqProofs [f_need_letters, e1, e3, e4, e5, e6, refuse]
theorem rs_nil {n : Nat} {w : List Nat} (h : ∀ x ∈ w, n ≤ x) : rs n w = [] := by
  induction w with
  | nil => rfl
  | cons a w ih =>
    show (a :: w).dropWhile (fun x => decide (n ≤ x)) = []
    rw [List.dropWhile_cons, if_pos (by simpa using h a (.head _))]
    exact ih fun x hx => h x (.tail _ hx)
def sgn (a b : List Tr) : Int := if Tr.lt (Tr.ofL a) (Tr.ofL b) = true then -1 else if Tr.lt (Tr.ofL b) (Tr.ofL a) = true then 1 else 0
abbrev S_stands (P : Pr) := ∀ (n : Nat) (A B : List Nat) (k : Nat) (m : Mu), n ≤ 6 → WormOk A → WormOk B → (∀ x ∈ A, n ≤ x) → (∀ x ∈ B, n ≤ x) → 67 ≤ k → callN P k "stands" [.val (.int n), .val (dW A), .val (dW B)] m = some (.ok (.val (.int (sgn (ord (lws n A)) (ord (lws n B))))) false m)
theorem t_stands (fd_stands : P.fd "stands" = some f_stands) (s_need_number : S_need_number P) (s_need_letters : S_need_letters P) (s_less_at : S_less_at P) (gl_MOST_LETTER : P.glob "MOST_LETTER" = some (.int 6)) : S_stands P := by
  intro n A B k m hn hA hB lA lB hk
  obtain ⟨k, rfl, hj⟩ := at_succ hk
  rw [callN_at fd_stands _ _ _ rfl]
  have e1 := s_need_number n 0 6 k m (by omega) (by omega) (by omega)
  have e2 := (s_need_letters n (dW A) k m (okd_W (by have := hA.1; omega)) (by omega)).2 A rfl hA
  have e3 := (s_need_letters n (dW B) k m (okd_W (by have := hB.1; omega)) (by omega)).2 B rfl hB
  rw [if_pos (rs_nil lA)] at e2
  rw [if_pos (rs_nil lB)] at e3
  have e4 := s_less_at n A B k m (fun x hx => ⟨lA x hx, hA.2 x hx⟩) (fun x hx => ⟨lB x hx, hB.2 x hx⟩) (by have := hA.1; omega) (by have := hB.1; omega) (by omega)
  have e5 := s_less_at n B A k m (fun x hx => ⟨lB x hx, hB.2 x hx⟩) (fun x hx => ⟨lA x hx, hA.2 x hx⟩) (by have := hB.1; omega) (by have := hA.1; omega) (by omega)
  rw [sgn]
  cases g1 : Tr.lt (Tr.ofL (ord (lws n A))) (Tr.ofL (ord (lws n B))) with
  | true =>
    rw [g1] at e4
    simp -implicitDefEqProofs [f_stands, Pr.g, gl_MOST_LETTER, e1, e2, e3, e4]
  | false =>
    rw [g1] at e4
    cases g2 : Tr.lt (Tr.ofL (ord (lws n B))) (Tr.ofL (ord (lws n A))) with
    | true =>
      rw [g2] at e5
      simp -implicitDefEqProofs [f_stands, Pr.g, gl_MOST_LETTER, e1, e2, e3, e4, e5]
    | false =>
      rw [g2] at e5
      simp -implicitDefEqProofs [f_stands, Pr.g, gl_MOST_LETTER, e1, e2, e3, e4, e5]
abbrev S_standsX (P : Pr) := ∀ (n : Nat) (k : Nat) (m : Mu), 67 ≤ k → (∀ a b : D, 6 < n → callN P k "stands" [.val (.int n), .val a, .val b] m = refuse "InvalidNumber" (.int n) m) ∧
  (∀ a b : D, n ≤ 6 → Okd a → wormB a = false → callN P k "stands" [.val (.int n), .val a, .val b] m = refuse "InvalidWorm" a m) ∧
  (∀ (w : List Nat) (b : D), n ≤ 6 → WormOk w → rs n w ≠ [] → callN P k "stands" [.val (.int n), .val (dW w), .val b] m = refuse "InvalidWorm" (dW w) m) ∧
  (∀ (w : List Nat) (b : D), n ≤ 6 → WormOk w → rs n w = [] → Okd b → wormB b = false → callN P k "stands" [.val (.int n), .val (dW w), .val b] m = refuse "InvalidWorm" b m) ∧
  (∀ (w v : List Nat), n ≤ 6 → WormOk w → rs n w = [] → WormOk v → rs n v ≠ [] → callN P k "stands" [.val (.int n), .val (dW w), .val (dW v)] m = refuse "InvalidWorm" (dW v) m)
theorem t_standsX (fd_stands : P.fd "stands" = some f_stands) (s_need_number : S_need_numberG P) (s_need_letters : S_need_letters P) (gl_MOST_LETTER : P.glob "MOST_LETTER" = some (.int 6)) : S_standsX P := by
  intro n k m hk
  obtain ⟨k, rfl, hj⟩ := at_succ hk
  have e1 := s_need_number n 0 6 k m (by omega)
  refine ⟨fun a b h => ?_, fun a b h ha g => ?_, fun w b h hw g => ?_, fun w b h hw g hb gb => ?_, fun w v h hw g hv gv => ?_⟩ <;> rw [callN_at fd_stands _ _ _ rfl]
  · rw [if_neg (by omega), refuse] at e1
    simp -implicitDefEqProofs [f_stands, Pr.g, gl_MOST_LETTER, e1, refuse]
  · rw [if_pos (by omega)] at e1
    have e2 := (s_need_letters n a k m ha (by omega)).1 g
    rw [refuse] at e2
    simp -implicitDefEqProofs [f_stands, Pr.g, gl_MOST_LETTER, e1, e2, refuse]
  · rw [if_pos (by omega)] at e1
    have e2 := (s_need_letters n (dW w) k m (okd_W (by have := hw.1; omega)) (by omega)).2 w rfl hw
    rw [if_neg g, refuse] at e2
    generalize dW w = dw at *
    simp -implicitDefEqProofs [f_stands, Pr.g, gl_MOST_LETTER, e1, e2, refuse]
  · rw [if_pos (by omega)] at e1
    have e2 := (s_need_letters n (dW w) k m (okd_W (by have := hw.1; omega)) (by omega)).2 w rfl hw
    rw [if_pos g] at e2
    have e3 := (s_need_letters n b k m hb (by omega)).1 gb
    rw [refuse] at e3
    generalize dW w = dw at *
    simp -implicitDefEqProofs [f_stands, Pr.g, gl_MOST_LETTER, e1, e2, e3, refuse]
  · rw [if_pos (by omega)] at e1
    have e2 := (s_need_letters n (dW w) k m (okd_W (by have := hw.1; omega)) (by omega)).2 w rfl hw
    rw [if_pos g] at e2
    have e3 := (s_need_letters n (dW v) k m (okd_W (by have := hv.1; omega)) (by omega)).2 v rfl hv
    rw [if_neg gv, refuse] at e3
    generalize dW w = dw at *
    generalize dW v = dv at *
    simp -implicitDefEqProofs [f_stands, Pr.g, gl_MOST_LETTER, e1, e2, e3, refuse]
/-- all of some worms -/
def allB : D → Bool | .tup xs => xs.all wormB | _ => false
theorem btAll (found : List Nat) : ∀ ws : List (List Nat), (ws.foldl bt found).length ≤ found.length + (ws.map List.length).sum
  | [] => by simp
  | w :: ws => by
    have := btAll (bt found w) ws
    have := bt_len found w
    simp only [List.foldl_cons, List.map_cons, List.sum_cons]
    omega
theorem all_worms (s_is_worm_in : S_is_worm_in P) {k : Nat} {m : Mu} {r : Rho} {xs : List D} (hk : 3 ≤ k) (hp : ∀ x ∈ xs, x.plain = true) (hl : xs.length ≤ line) (hr : r.length = 3) : cmpE ⟨P.g, callN P k⟩ (.one 1) [] (.call "is_worm_in" [(.var 1)] [0]) none r xs m = some (.ok (.val (.lst (xs.map fun d => .bl (wormB d)))) true m) := by
  refine cmpE_mapD (fun d => .bl (wormB d)) 1 (fun x hx => ⟨false, ?_⟩) hl
  have e := s_is_worm_in x k m (hp x hx) hk
  match r, hr with
  | [u, v, z], _ => simp -implicitDefEqProofs [e]
theorem mem_sum {w : List Nat} : ∀ {ws : List (List Nat)}, w ∈ ws → w.length ≤ (ws.map List.length).sum
  | [], h => by cases h
  | v :: ws, h => by
    rw [List.map_cons, List.sum_cons]
    rcases List.mem_cons.1 h with rfl | h
    · omega
    · have := mem_sum h; omega
abbrev S_all_of (P : Pr) := ∀ (ws : List (List Nat)) (k : Nat) (m : Mu), (∀ w ∈ ws, Lt7 w) → (ws.map List.length).sum ≤ 70 → ws.length ≤ 70 → 27 ≤ k → callN P k "all_of" [.val (.tup (ws.map dW))] m = some (.ok (.val (dW (ws.foldl bt []))) false m)
theorem t_all_of (fd_all_of : P.fd "all_of" = some f_all_of) (s_is_worm_in : S_is_worm_in P) (s_both_in : S_both_in P) : S_all_of P := by
  intro ws k m h hl hl2 hk
  obtain ⟨k, rfl, hj⟩ := at_succ hk
  rw [callN_at fd_all_of _ _ _ rfl]
  have hlen : ∀ w ∈ ws, w.length ≤ 70 := fun w hw => Nat.le_trans (mem_sum hw) hl
  have a1 := all_worms (xs := ws.map dW) (r := [some (.val (.tup (ws.map dW))), none, none]) (m := m) s_is_worm_in (show 3 ≤ k by omega) (fun x hx => by
    obtain ⟨w, _, rfl⟩ := List.mem_map.1 hx
    exact plain_W w) (by simp [line]; omega) rfl
  have a2 : blt .all [.lst ((ws.map dW).map fun d => .bl (wormB d))] = some (.bl true, false) := by
    rw [all_lst wormB]
    congr 3
    rw [List.all_eq_true]
    intro x hx
    obtain ⟨w, hw, rfl⟩ := List.mem_map.1 hx
    exact wormB_W.2 ⟨by have := hlen w hw; omega, h w hw⟩
  simp -implicitDefEqProofs only [f_all_of]
  generalize hX : (ws.map dW).map (fun d => D.bl (wormB d)) = X at *
  simp -implicitDefEqProofs [isiD, tyD, tyOk, a1, a2]
  refine forE_inv (φ := dW) (Q := fun x => fin _ (seqS x _) = _) (fun rem r m' => m' = m ∧ ∃ f x1, r = [some (.val (.tup (ws.map dW))), x1, some (.val (dW f))] ∧ rem.foldl bt f = ws.foldl bt [] ∧ f.length + (rem.map List.length).sum ≤ 70 ∧ Lt7 f ∧ ∀ w ∈ rem, Lt7 w) ?_ ?_ _ _ _ ⟨rfl, [], none, rfl, rfl, by simpa using hl, (fun _ h => by cases h), h⟩
  · rintro w l r m' ⟨rfl, f, x1, rfl, g1, g2, g3, g4⟩
    refine ⟨_, rfl, ?_⟩
    simp only [List.map_cons, List.sum_cons] at g2
    have e1 := s_both_in f w k m' g3 (g4 w (.head _)) (by omega) (by omega)
    have hbl := bt_len f w
    generalize hbt : bt f w = B at *
    simp -implicitDefEqProofs [e1]
    refine ⟨B, rfl, by rw [← hbt]; simpa using g1, by omega, by rw [← hbt]; exact bt_lt g3 (g4 w (.head _)), fun v hv => g4 v (.tail _ hv)⟩
  · rintro r m' ⟨rfl, f, x1, rfl, g1, g2, g3, g4⟩
    rw [List.foldl_nil] at g1
    subst g1
    simp
abbrev S_all_ofX (P : Pr) := ∀ (d : D) (k : Nat) (m : Mu), Okd d → allB d = false → 66 ≤ k → callN P k "all_of" [.val d] m = refuse "InvalidWorm" d m
theorem t_all_ofX (fd_all_of : P.fd "all_of" = some f_all_of) (s_is_worm_in : S_is_worm_in P) (s_anew : S_anew P) : S_all_ofX P := by
  intro d k m h g hk
  obtain ⟨k, rfl, hj⟩ := at_succ hk
  rw [callN_at fd_all_of _ _ _ rfl]
  obtain ⟨fr, e6⟩ := s_anew 60 d k m h.pl h.dp h.sz (by omega)
  by_cases ht : ∃ xs, d = .tup xs
  · obtain ⟨xs, rfl⟩ := ht
    have hpl := h.pl
    rw [D.plain] at hpl
    have hsz := h.sz
    rw [szD] at hsz
    have a1 := all_worms (xs := xs) (r := [some (.val (.tup xs)), none, none]) (m := m) s_is_worm_in (show 3 ≤ k by omega) (fun x hx => plain_mem hx hpl) (by have := len_sz xs; omega) rfl
    have a2 : blt .all [.lst (xs.map fun d => .bl (wormB d))] = some (.bl false, false) := by
      rw [all_lst wormB]
      congr 3
    simp -implicitDefEqProofs [f_all_of, isiD, tyD, tyOk, a1, a2, e6, refuse]
  · have hp := h.pl
    have ht2 : isiD P.g d "tuple" = some false := by
      cases d <;> first | exact absurd ⟨_, rfl⟩ ht | (simp [D.plain] at hp; done) | (simp -implicitDefEqProofs [isiD, tyD, tyOk]; done) | (simp -implicitDefEqProofs [isiD, tyD, tyOk, D.plain] at hp ⊢)
    simp -implicitDefEqProofs [f_all_of, ht2, e6, refuse]
end Wk

set_option linter.all false
set_option maxRecDepth 100000
/-! Wlaw -/
namespace Wk
open PM PY Fn Ma
open PySem (Str)
variable {P : Pr}
theorem well_new {a b : Int} (h1 : 0 ≤ a) (h2 : 0 ≤ b) (h3 : b ≤ 10 ^ 29) : WellAt [.lst [.int a, .int b, .int 0]] 0 0 := ⟨a, b, 0, rfl, h1, h2, h3, by omega, by omega⟩
def lawF (c n : Int) : Fd := ⟨["script"], 4, [(.for (.one 1) (.rng [(.blt .max [(.con (.int 1)), (.blt .min [(.con (.int c)), (.blt .len [(.var 0)])])])]) [(.cell 2 (.call "_law_well" [(.var 0), (.var 1)] [0, 1])), (.for (.one 3) (.rng [(.con (.int n))]) [(.ite (.not (.call "_law_right" [(.var 2)] [0])) [(.ret (.con (.bl false)))] [])])]), (.ret (.con (.bl true)))]⟩
theorem t_law {c n : Nat} (fd_law : P.fd "law" = some (lawF c n)) (hc : c ≤ 10) (hn1 : 1 ≤ n) (hn : n ≤ 20) (s__law_well : S_law_well P) (dd KK : Nat) (hdd : dd ≤ 30000)
    (s__law_right : ∀ (j : Nat) (m : Mu) (B k : Nat), WellAt m j B → B ≤ 600000 → KK ≤ k → ∃ o : Ob, callN P k "_law_right" [.loc j] m = some (.ok (.val (.bl true)) false (m.set j o)) ∧ WellAt (m.set j o) j (B + dd)) (ns : List Int) (h1 : ns.length ≤ 63) (k : Nat) (hk : KK + 2 ≤ k) :
    ∃ m, callN P k "law" [.val (.lst (ns.map D.int))] [] = some (.ok (.val (.bl true)) false m) := by
  obtain ⟨k, rfl, hj⟩ := at_succ (n := KK + 1) (by omega)
  refine ⟨[], ?_⟩
  rw [callN_at fd_law _ _ _ rfl]
  obtain ⟨N, hN, hN3⟩ : ∃ N : Nat, N ≤ 10 ∧ (if (1 : Int) < (if (ns.length : Int) < c then (ns.length : Int) else c) then (if (ns.length : Int) < c then (ns.length : Int) else c) else 1) = (N : Int) := by
    refine ⟨(if (1 : Int) < (if (ns.length : Int) < c then (ns.length : Int) else c) then (if (ns.length : Int) < c then (ns.length : Int) else c) else 1).toNat, ?_, ?_⟩ <;> split <;> (try split) <;> omega
  simp only [Int.ofNat_lt] at hN3
  have hnv : (lawF c n).nv = 4 := rfl
  have hps : (lawF c n).ps = [("script" : Str)] := rfl
  have hr := rngOf_1 N (by omega)
  have hr4 : rngOf [.int (n : Int)] = some (rngL 0 n) := rngOf_1 n (by omega)
  obtain ⟨F, hF⟩ : ∃ F, F = S.for (.one 3) (.rng [(.con (.int n))]) [(.ite (.not (.call "_law_right" [(.var 2)] [0])) [(.ret (.con (.bl false)))] [])] := ⟨_, rfl⟩
  have hlaw : (lawF c n).body = [(.for (.one 1) (.rng [(.blt .max [(.con (.int 1)), (.blt .min [(.con (.int c)), (.blt .len [(.var 0)])])])]) [(.cell 2 (.call "_law_well" [(.var 0), (.var 1)] [0, 1])), F]), (.ret (.con (.bl true)))] := by rw [hF]; rfl
  rw [hlaw, hnv, hps]
  have inner : ∀ (a b : Int) (x1 x3 : Option T) (N : Rho → Mu → Prop) (Q : Option RS → Prop), 0 ≤ a → 0 ≤ b → b ≤ 10 ^ 29 → (∀ o d, N [some (.val (.lst (ns.map D.int))), x1, some (.loc 0), some (.val d)] [o]) →
      outF (seqS (exec ⟨P.g, callN P k⟩ 0 F [some (.val (.lst (ns.map D.int))), x1, some (.loc 0), x3] [.lst [.int a, .int b, .int 0]]) fun r1 m1 => execs ⟨P.g, callN P k⟩ 0 [] r1 m1) N Q := by
    intro a b x1 x3 N Q w1 w2 w3 hN
    rw [hF]
    simp -implicitDefEqProofs [hr4]
    refine forE_rng (Q := fun x => outF (seqS x _) N Q) (lo := 0) (fun i r m2 => ∃ x3 o, (i ≠ 0 → ∃ d, x3 = some (.val d)) ∧ r = [some (.val (.lst (ns.map D.int))), x1, some (.loc 0), x3] ∧ m2 = [o] ∧ WellAt m2 0 (i * dd)) n ?_ ?_ _ _ ⟨x3, _, fun h => absurd rfl h, rfl, rfl, by simpa using well_new w1 w2 w3⟩
    · rintro i r m2 hi ⟨x3, o, hx, rfl, rfl, hw⟩
      refine ⟨_, rfl, ?_⟩
      have hid : i * dd ≤ 20 * 30000 := Nat.mul_le_mul (by omega) hdd
      obtain ⟨o2, e1, e2⟩ := s__law_right 0 [o] (i * dd) k hw (by omega) (by omega)
      simp at e1 e2
      simp -implicitDefEqProofs [e1]
      rw [show (i + 1) * dd = i * dd + dd by rw [Nat.add_mul]; omega]
      exact ⟨_, ⟨_, rfl⟩, rfl, e2⟩
    · rintro r m2 ⟨x3, o, hx, rfl, rfl, hw⟩
      obtain ⟨d, rfl⟩ := hx (by omega)
      simpa using hN o d
  simp -implicitDefEqProofs [hN3, hr]
  refine forE_rng (Q := fun x => fin 0 (seqS x _) = some (R.ok (.val (.bl true)) false [])) (lo := 0) (fun i r m' => (r = [some (.val (.lst (ns.map D.int))), none, none, none] ∧ m' = []) ∨ ∃ x1 x3 o, r = [some (.val (.lst (ns.map D.int))), x1, some (.loc 0), some (.val x3)] ∧ m' = [o]) N ?_ ?_ _ _ (.inl ⟨rfl, rfl⟩)
  · intro i r m' hi h
    refine ⟨_, rfl, ?_⟩
    obtain ⟨a, b, w1, w2, w3, w4⟩ := s__law_well ns i k m' h1 (by omega) (by omega)
    rcases h with ⟨rfl, rfl⟩ | ⟨x1, x3, o, rfl, rfl⟩
    · simp -implicitDefEqProofs [w4]
      exact inner a b _ _ _ _ w1 w2 w3 fun o d => by simp
    · simp -implicitDefEqProofs [w4, others]
      exact inner a b _ _ _ _ w1 w2 w3 fun o d => by simp
  · intro r m' h
    rcases h with ⟨rfl, rfl⟩ | ⟨x1, x3, o, rfl, rfl⟩ <;> simp
end Wk

set_option linter.all false
set_option maxRecDepth 100000
/-! Wl7 -/
namespace Wk
open PM PY Fn Ma
open PySem (Str)
variable {P : Pr}
theorem fin_new (m l : Mu) (xs : List D) (f : Bool) : fin m.length (some (.rt (.loc m.length) f (m ++ .lst xs :: l))) = some (.ok (.val (.lst xs)) true m) := by
  simp [fin]
theorem lw6 (w : List Nat) (n : Nat) (h : Lt7 w) : Lt7 (lws n w) := fun x hx => by
  obtain ⟨y, hy, rfl⟩ := List.mem_map.1 hx
  have := h y hy; omega
theorem hdn_lt {w : List Nat} (n : Nat) (h : Lt7 w) : Lt7 (hdn n w) := fun x hx => by
  obtain ⟨y, hy, rfl⟩ := List.mem_map.1 hx
  have := h y (hd_mem y hy).1; omega
theorem hdn_len (n : Nat) (w : List Nat) : (hdn n w).length ≤ w.length := by
  rw [hdn, List.length_map]; exact hd_len n w
/-- the orders of heads, to a number -/
abbrev dHs (w : List Nat) (n : Nat) : List D := (List.range n).map fun i => dL (ord (hdn i w))
abbrev S_law_heads (P : Pr) := ∀ (w : List Nat) (most : Nat) (k : Nat) (m : Mu), Lt7 w → w.length ≤ 1000 → most ≤ 100 → 70 ≤ k → callN P k "_law_heads" [.val (dW w), .val (.int most)] m = some (.ok (.val (.lst (dHs w (most + 1)))) true m)
theorem t_law_heads (fd__law_heads : P.fd "_law_heads" = some f__law_heads) (s__law_order : S_law_order P) : S_law_heads P := by
  intro w most k m h hl hm hk
  obtain ⟨k, rfl, hj⟩ := at_succ hk
  rw [callN_at fd__law_heads _ _ _ rfl]
  have hr : rngOf [.int ((most : Int) + 1)] = some (rngL 0 (most + 1)) := by
    have := rngOf_1 (most + 1) (by omega)
    rwa [show ((most + 1 : Nat) : Int) = (most : Int) + 1 by omega] at this
  simp -implicitDefEqProofs [f__law_heads, hr]
  refine forE_rng (Q := fun x => fin _ (seqS x _) = _) (lo := 0) (fun i r m' => m' = m ++ [.lst (dHs w i)] ∧ ∃ x3 x4, r = [some (.val (dW w)), some (.val (.int most)), some (.loc m.length), x3, x4, none]) (most + 1) ?_ ?_ _ _ ⟨rfl, none, none, rfl⟩
  · rintro i r m' hi ⟨rfl, x3, x4, rfl⟩
    refine ⟨_, rfl, ?_⟩
    simp -implicitDefEqProofs []
    obtain ⟨M, hM⟩ : ∃ M, M = m ++ [Ob.lst (dHs w i)] := ⟨_, rfl⟩
    rw [← hM]
    have hle : (hd i w).length ≤ w.length := hd_len i w
    refine whE_inv (Q := fun x => outF (seqS x _) _ _) (fun c r m' => m' = M ∧ ∃ q : Nat, q + c = (hd i w).length ∧ r = [some (.val (dW w)), some (.val (.int most)), some (.loc m.length), some (.val (.int i)), some (.val (.int q)), none]) ?_ _ _ _ ⟨rfl, 0, Nat.zero_add _, rfl⟩
    rintro c r m' ⟨rfl, q, hq, rfl⟩
    obtain ⟨u1, u2, u3, u4⟩ := take_while_at (fun x => decide (i ≤ x)) w q (show q ≤ (hd i w).length by omega)
    by_cases hlt : q < (hd i w).length
    · obtain ⟨h1, h2⟩ := u1 hlt
      have h3 : ((i : Nat) : Int) ≤ ((w[q] : Nat) : Int) := by have := of_decide_eq_true h2; omega
      have h5 : cop .Lt (.int ((q : Nat) : Int)) (.int ((w.length : Nat) : Int)) = some true := by rw [cop_lt, decide_eq_true (by omega)]
      have h6 : cop .GtE (.int ((w[q] : Nat) : Int)) (.int i) = some true := by rw [cop_ge, decide_eq_true h3]
      have h7 := idx_W h1
      generalize w[q] = wi at *
      refine ⟨true, false, m', ?_, fun z => (by cases z), fun _ => ?_⟩
      · simp -implicitDefEqProofs [-cop_ge, -cop_lt, h5, h6, h7]
      · simp -implicitDefEqProofs []
        exact ⟨c - 1, by omega, q + 1, by omega, by simp⟩
    · have hi2 : q = (hd i w).length := by omega
      refine ⟨false, false, m', ?_, fun _ => ?_, fun z => by cases z⟩
      · by_cases h1 : q < w.length
        · have h3 := of_decide_eq_false (u2 hi2 h1)
          have h5 : cop .Lt (.int ((q : Nat) : Int)) (.int ((w.length : Nat) : Int)) = some true := by rw [cop_lt, decide_eq_true (by omega)]
          have h6 : cop .GtE (.int ((w[q] : Nat) : Int)) (.int i) = some false := by rw [cop_ge, decide_eq_false (by omega)]
          have h7 := idx_W h1
          generalize w[q] = wi at *
          simp -implicitDefEqProofs [-cop_ge, -cop_lt, h5, h6, h7]
        · have h5 : cop .Lt (.int ((q : Nat) : Int)) (.int ((w.length : Nat) : Int)) = some false := by rw [cop_lt, decide_eq_false (by omega)]
          simp -implicitDefEqProofs [-cop_ge, -cop_lt, h5]
      · have s1 := slcW_to w q
        rw [hi2, u3] at s1
        have o1 := s__law_order 6 (hdn i w) k m' (hdn_lt i h) (by omega) (by have := hdn_len i w; omega) (by omega)
        have c1 : cmpE ⟨P.g, callN P k⟩ (.one 5) [] (.bin .Sub (.var 5) (.var 3)) none [some (.val (dW w)), some (.val (.int most)), some (.loc m.length), some (.val (.int i)), some (.val (.int (hd i w).length)), none] ((hd i w).map fun (n : Nat) => D.int n) m' = some (.ok (.val (.lst ((hdn i w).map fun (n : Nat) => D.int n))) true m') := by
          rw [cmpE_map (φ := fun (n : Nat) => D.int n) (ψ := fun (n : Nat) => D.int ((n - i : Nat) : Int)) (l := hd i w)]
          · simp [hdn, Function.comp_def]
          · intro x hx
            have hx2 := (hd_mem x hx).2
            have e : (x : Int) - (i : Int) = ((x - i : Nat) : Int) := by omega
            refine ⟨false, ?_⟩
            simp -implicitDefEqProofs [e]
          · simp [line]; omega
        have tl : blt .tuple [.lst ((hdn i w).map fun (n : Nat) => D.int n)] = some (dW (hdn i w), false) := rfl
        have e9 : dHs w (i + 1) = dHs w i ++ [dL (ord (hdn i w))] := by rw [dHs, List.range_succ, List.map_append]; rfl
        have hln : decide ((dHs w i).length < line) = true := by
          simp [line]; omega
        rw [e9, hi2]
        generalize ho : dL (ord (hdn i w)) = O at *
        generalize hdwi : dW (hdn i w) = DWi at *
        generalize hdH : dHs w i = H at *
        generalize (hdn i w).map (fun (n : Nat) => D.int n) = L1 at *
        generalize hL2 : (hd i w).map (fun (n : Nat) => D.int n) = L2 at *
        have s1' : slcB false true (dW w) [.int ((hd i w).length : Nat)] = some (.tup L2, false) := by rw [s1, ← hL2]
        subst hM
        generalize dW w = dw at *
        simp -implicitDefEqProofs [s1', c1, tl, o1, hln]
  · rintro r m' ⟨rfl, x3, x4, rfl⟩
    simp [fin_new]
theorem zipD_same {α : Type} (f g : α → D) : ∀ l : List α, zipD (l.map f) (l.map g) = l.map fun x => .tup [f x, g x]
  | [] => rfl
  | x :: l => by simp [zipD, zipD_same f g l]
/-- one implies another one, by heads -/
def impB (A B : List Nat) : Bool := !(List.range 8).any fun n => Tr.lt (Tr.ofL (ord (hdn n A))) (Tr.ofL (ord (hdn n B)))
theorem impB_iff {A B : List Nat} (h : Lt7 B) : impB A B = true ↔ Imp (ord A) (ord B) := by
  rw [imp_heads fun x hx => by have := h x hx; omega]
  simp only [impB, Bool.not_eq_true', List.any_eq_false, List.mem_range, Bool.not_eq_true]
  constructor
  · intro g n hn
    have := g n hn
    rw [Tr.lt_not_le] at this
    simpa using this
  · intro g n hn
    have := g n hn
    rw [Tr.lt_not_le, this]; rfl
abbrev S_law_implies (P : Pr) := ∀ (A B : List Nat) (k : Nat) (m : Mu), Lt7 A → Lt7 B → A.length ≤ 1000 → B.length ≤ 1000 → 71 ≤ k → callN P k "_law_implies" [.val (dW A), .val (dW B)] m = some (.ok (.val (.bl (impB A B))) false m)
theorem ht_hdn {w : List Nat} (n : Nat) (h : Lt7 w) : ht (Tr.ofL (ord (hdn n w))) ≤ 7 := ht_ordF 6 _ (hdn_lt n h)
theorem t_law_implies (fd__law_implies : P.fd "_law_implies" = some f__law_implies) (s__law_heads : S_law_heads P) (s__law_less : S_law_less P) : S_law_implies P := by
  intro A B k m hA hB lA lB hk
  obtain ⟨k, rfl, hj⟩ := at_succ hk
  rw [callN_at fd__law_implies _ _ _ rfl]
  have e1 := s__law_heads A 7 k m hA lA (by omega) (by omega)
  have e2 := s__law_heads B 7 k m hB lB (by omega) (by omega)
  simp only [Int.cast_ofNat_Int, Nat.reduceAdd] at e1 e2
  have e3 := zipD_same (fun i => dL (ord (hdn i A))) (fun i => dL (ord (hdn i B))) (List.range 8)
  have e4 : ∀ (u v : Option T), cmpE ⟨P.g, callN P k⟩ (.many [2, 3]) [] (.call "_law_less" [(.var 2), (.var 3)] [0, 1]) none [u, v, none, none] (zipD (dHs A 8) (dHs B 8)) m = some (.ok (.val (.lst ((List.range 8).map fun n => .bl (Tr.lt (Tr.ofL (ord (hdn n A))) (Tr.ofL (ord (hdn n B))))))) true m) := fun u v => by
    rw [e3]
    refine cmpE_map2 (l := List.range 8) (fun i => dL (ord (hdn i A))) (fun i => dL (ord (hdn i B))) (fun n => .bl (Tr.lt (Tr.ofL (ord (hdn n A))) (Tr.ofL (ord (hdn n B))))) 2 3 (fun n hn => ⟨false, ?_⟩) (by simp [line])
    have := s__law_less 7 (Tr.ofL (ord (hdn n A))) (Tr.ofL (ord (hdn n B))) k m (ht_hdn n hA) (ht_hdn n hB) (by omega)
    rw [dT_ofL, dT_ofL] at this
    simp -implicitDefEqProofs [this]
  have e5 := any_lst (fun n => Tr.lt (Tr.ofL (ord (hdn n A))) (Tr.ofL (ord (hdn n B)))) (List.range 8)
  rw [impB]
  generalize hLL : (List.range 8).map (fun n => D.bl (Tr.lt (Tr.ofL (ord (hdn n A))) (Tr.ofL (ord (hdn n B))))) = LL at *
  generalize dHs A 8 = HA at *
  generalize dHs B 8 = HB at *
  simp -implicitDefEqProofs only [f__law_implies]
  generalize (List.range 8).any (fun n => Tr.lt (Tr.ofL (ord (hdn n A))) (Tr.ofL (ord (hdn n B)))) = bb at *
  generalize dW A = dA at *
  generalize dW B = dB at *
  simp -implicitDefEqProofs [e1, e2, e4, e5]
end Wk

set_option linter.all false
set_option maxRecDepth 100000
/-! Wl8 -/
namespace Wk
open PM PY Fn Ma
open PySem (Str)
variable {P : Pr}
theorem sup_bt {A B : List Nat} (hA : Lt7 A) (hB : Lt7 B) : Sup (ord (bt A B)) (ord A) (ord B) := by
  rw [ord_form]
  exact sup_bth fun x hx => by
    rcases List.mem_append.1 hx with h | h
    · exact hA x h
    · exact hB x h
theorem greatest_ok {A B W : List Nat} (hA : Lt7 A) (hB : Lt7 B) : (impB W A && (impB W B && !impB W (bt A B))) = false := by
  cases h1 : impB W A with
  | false => rfl
  | true =>
    cases h2 : impB W B with
    | false => rfl
    | true =>
      have := (impB_iff (bt_lt hA hB)).2 ((sup_bt hA hB).least _ (nf_ord W) ((impB_iff hA).1 h1) ((impB_iff hB).1 h2))
      rw [this]; rfl
abbrev S_law_greatest (P : Pr) := ∀ (A B : List Nat) (k : Nat) (m : Mu), (∀ x ∈ A, x ≤ 5) → (∀ x ∈ B, x ≤ 5) → A.length ≤ 300 → B.length ≤ 300 → 72 ≤ k → callN P k "_law_greatest" [.val (dW A), .val (dW B), .val (dW (bt A B))] m = some (.ok (.val (.bl true)) false m)
theorem t_law_greatest (fd__law_greatest : P.fd "_law_greatest" = some f__law_greatest) (s__law_implies : S_law_implies P) : S_law_greatest P := by
  intro A B k m hA hB lA lB hk
  obtain ⟨k, rfl, hj⟩ := at_succ hk
  rw [callN_at fd__law_greatest _ _ _ rfl]
  have h6A : Lt7 A := fun x hx => by have := hA x hx; omega
  have h6B : Lt7 B := fun x hx => by have := hB x hx; omega
  have htop : top (A ++ B) ≤ 5 := top_le.2 fun x hx => by
    rcases List.mem_append.1 hx with h | h
    · exact hA x h
    · exact hB x h
  have c1 := cat_W (a := A) (b := B) (by omega)
  have c2 := cat_W (a := B) (b := A) (by omega)
  have c3 := cat_W (a := [0]) (b := A) (by simp; omega)
  have c4 := cat_W (a := [0] ++ A) (b := B) (by simp; omega)
  have c5 := cat_W (a := A ++ B) (b := [0]) (by simp; omega)
  have mx := max_W0 (A ++ B)
  rw [show D.tup ((A ++ B).map (fun (n : Nat) => D.int n) ++ [.int 0]) = dW (A ++ B ++ [0]) by simp] at mx
  have e0 : dW [0] = .tup [.int 0] := rfl
  rw [e0] at c3 c5
  have e1 : D.tup [.int (((top (A ++ B) : Nat) : Int) + 1)] = dW [top (A ++ B) + 1] := by simp
  have eT : bt A B = bt A B := rfl
  have tl := bt_len A B
  have tt := bt_lt h6A h6B
  have gr := fun W => greatest_ok (W := W) h6A h6B
  generalize hT : bt A B = T at *
  obtain ⟨L, hL⟩ : ∃ L : List (List Nat), L = [A ++ B, B ++ A, T, [0] ++ A ++ B, [top (A ++ B) + 1]] := ⟨_, rfl⟩
  have hLok : ∀ W ∈ L, Lt7 W ∧ W.length ≤ 1000 := by
    intro W hW
    rw [hL] at hW
    simp only [List.mem_cons, List.not_mem_nil, or_false] at hW
    have hAB : Lt7 (A ++ B) := fun x hx => by
      rcases List.mem_append.1 hx with h | h
      · exact h6A x h
      · exact h6B x h
    rcases hW with rfl | rfl | rfl | rfl | rfl
    · exact ⟨hAB, by simp; omega⟩
    · exact ⟨fun x hx => hAB x (by simp at hx ⊢; exact hx.symm), by simp; omega⟩
    · exact ⟨tt, by omega⟩
    · refine ⟨fun x hx => ?_, by simp; omega⟩
      simp only [List.singleton_append, List.cons_append, List.mem_cons] at hx
      rcases hx with rfl | hx
      · omega
      · exact hAB x hx
    · exact ⟨fun x hx => by rw [List.mem_singleton.1 hx]; omega, by simp⟩
  have hLd : L.map dW = [dW (A ++ B), dW (B ++ A), dW T, dW ([0] ++ A ++ B), dW [top (A ++ B) + 1]] := by rw [hL]; rfl
  have cm : ∀ r : Rho, r = [some (.val (dW A)), some (.val (dW B)), some (.val (dW T)), some (.val (.lst (L.map dW))), none] → cmpE ⟨P.g, callN P k⟩ (.one 4) [] (.and (.call "_law_implies" [(.var 4), (.var 0)] [0, 1]) (.and (.call "_law_implies" [(.var 4), (.var 1)] [0, 1]) (.not (.call "_law_implies" [(.var 4), (.var 2)] [0, 1])))) none r (L.map dW) m = some (.ok (.val (.lst (L.map fun W => .bl (impB W A && (impB W B && !impB W T))))) true m) := by
    rintro r rfl
    refine cmpE_map dW (fun W => .bl (impB W A && (impB W B && !impB W T))) 4 (fun W hW => ⟨false, ?_⟩) (by rw [hL]; simp [line])
    obtain ⟨w1, w2⟩ := hLok W hW
    have i1 := s__law_implies W A k m w1 h6A w2 (by omega) (by omega)
    have i2 := s__law_implies W B k m w1 h6B w2 (by omega) (by omega)
    have i3 := s__law_implies W T k m w1 tt w2 (by omega) (by omega)
    generalize impB W A = b1 at *
    generalize impB W B = b2 at *
    generalize impB W T = b3 at *
    generalize dW A = dA at *
    generalize dW B = dB at *
    generalize dW T = dT' at *
    generalize dW W = dw at *
    cases b1 <;> cases b2 <;> cases b3 <;> simp -implicitDefEqProofs [i1, i2, i3]
  have cm := cm _ rfl
  have an := any_lst (fun W => (impB W A && (impB W B && !impB W T))) L
  have an0 : (L.any fun W => (impB W A && (impB W B && !impB W T))) = false := by
    rw [List.any_eq_false]
    intro W _
    rw [gr W]; simp
  rw [an0] at an
  rw [hLd] at cm
  generalize L.map (fun W => D.bl (impB W A && (impB W B && !impB W T))) = LB at *
  generalize dW (A ++ B) = d1 at *
  generalize dW (B ++ A) = d2 at *
  generalize dW ([0] ++ A ++ B) = d3 at *
  generalize dW ([0] ++ A) = d4 at *
  generalize dW (A ++ B ++ [0]) = d5 at *
  generalize dW A = dA at *
  generalize dW B = dB at *
  generalize dW T = dT' at *
  rw [← e1] at cm
  simp -implicitDefEqProofs [f__law_greatest, c1, c2, c3, c4, c5, mx, cm, an]
end Wk

set_option linter.all false
set_option maxRecDepth 100000
/-! Wr04 -/
namespace Wk
open PM PY Fn Ma Fk04
open PySem (Str)
variable {P : Pr}
/-- the class of errors that stands at this place -/
def ecl : Nat → Str | 0 => "InvalidWorm" | _ => "InvalidNumber"
/-- what _law_told tells of an error -/
def toldI (i : Nat) (s : Str) : D := .tup [.lst [.int i], .str s]
/-- the call that way asks -/
noncomputable def wayT (P : Pr) (k : Nat) (w : Nat) (a b c : D) (m : Mu) : Option R := match w with
  | 0 => callN P k "head" [.val a, .val b] m
  | 1 => callN P k "rest" [.val a, .val b] m
  | 2 => callN P k "stands" [.val a, .val b, .val c] m
  | 3 => callN P k "both" [.val b, .val c] m
  | 4 => callN P k "implies" [.val b, .val c] m
  | _ => callN P k "all_of" [.val b] m
abbrev S_law_told04 (P : Pr) := ∀ (w k i : Nat) (a b c v : D) (s : Str) (m : Mu), w ≤ 5 → i ≤ 1 → wayT P k w a b c m = refuse (ecl i) v m → blt .repr [v] = some (.str s, false) →
  callN P (k + 1) "_law_told" [.val (.int w), .val a, .val b, .val c] m = some (.ok (.val (toldI i s)) false m)
theorem t_law_told04 (fd__law_told : P.fd "_law_told" = some f__law_told) (cl_WormsError : P.cls "WormsError" = some ([("WormsError" : Str)] : List Str)) (cl_InvalidWorm : P.cls "InvalidWorm" = some ([("InvalidWorm" : Str), "WormsError"] : List Str)) (cl_InvalidNumber : P.cls "InvalidNumber" = some ([("InvalidNumber" : Str), "WormsError"] : List Str)) : S_law_told04 P := by
  intro w k i a b c v s m hw hi hr hp
  rw [callN_at fd__law_told _ _ _ rfl]
  have ii : i = 0 ∨ i = 1 := by omega
  have hcl : P.g.cls (ecl i) = some [ecl i, "WormsError"] := by
    rcases ii with rfl | rfl
    · exact cl_InvalidWorm
    · exact cl_InvalidNumber
  have c2 : ([ecl i, "WormsError"] : List Str).contains ("WormsError" : Str) = true := by
    rcases ii with rfl | rfl <;> decide +kernel
  have kx : keepT P.g "WormsError" 5 4 (some (RS.ex (.exc (ecl i) v) [some (.val (.int w)), some (.val a), some (.val b), some (.val c), some (.val .non), none, none, none] m)) = some (.nx [some (.val (.int w)), some (.val a), some (.val b), some (.val c), some (.val (.exc (ecl i) v)), none, none, none] m) := by
    rw [keepT_ex _ _ _ _ _ _ _ _ (by show (P.cls "WormsError").isSome = true; rw [cl_WormsError]; rfl) hcl c2 (by simp) (by simp)]
    rfl
  have isc : ∀ j : Nat, j ≤ 1 → iscD P.g (.exc (ecl i) v) (ecl j) = some (decide (j = i)) := fun j hj => by
    have jj : j = 0 ∨ j = 1 := by omega
    have : P.g.cls (ecl j) = some [ecl j, "WormsError"] := by
      rcases jj with rfl | rfl
      · exact cl_InvalidWorm
      · exact cl_InvalidNumber
    simp only [iscD, this, hcl, Option.map_some]
    rcases ii with rfl | rfl <;> rcases jj with rfl | rfl <;> decide +kernel
  have i0 := isc 0 (by omega)
  have i1 := isc 1 (by omega)
  rw [show ecl 0 = "InvalidWorm" from rfl] at i0
  rw [show ecl 1 = "InvalidNumber" from rfl] at i1
  obtain ⟨bT, hbT⟩ : ∃ bT : List S, bT = [(.ite (.cmp .Eq (.var 0) (.con (.int 0))) [(.ex (.call "head" [(.var 1), (.var 2)] [0, 1]))] [(.ite (.cmp .Eq (.var 0) (.con (.int 1))) [(.ex (.call "rest" [(.var 1), (.var 2)] [0, 1]))] [(.ite (.cmp .Eq (.var 0) (.con (.int 2))) [(.ex (.call "stands" [(.var 1), (.var 2), (.var 3)] [0, 1, 2]))] [(.ite (.cmp .Eq (.var 0) (.con (.int 3))) [(.ex (.call "both" [(.var 2), (.var 3)] [0, 1]))] [(.ite (.cmp .Eq (.var 0) (.con (.int 4))) [(.ex (.call "implies" [(.var 2), (.var 3)] [0, 1]))] [(.ex (.call "all_of" [(.var 2)] [0]))])])])])])] := ⟨_, rfl⟩
  have hbody : f__law_told.body = [(.set 4 (.con .non)), (.trk bT "WormsError" 5 4), (.set 6 (.lst [(.isc (.var 4) "InvalidWorm"), (.isc (.var 4) "InvalidNumber")])), (.ret (.ife (.cmp .Is (.var 4) (.con .non)) (.con .non) (.tup [(.cmpr (.var 7) (.one 7) (.rng [(.con (.int 2))]) [(.idx (.var 6) (.var 7))] [7]), (.blt .repr [(.fld (.var 4))])])))] := by rw [hbT]; rfl
  have hexc : execs ⟨P.g, callN P k⟩ m.length bT [some (.val (.int w)), some (.val a), some (.val b), some (.val c), some (.val .non), none, none, none] m = some (.ex (.exc (ecl i) v) [some (.val (.int w)), some (.val a), some (.val b), some (.val c), some (.val .non), none, none, none] m) := by
    rw [hbT]
    rw [refuse] at hr
    have : w = 0 ∨ w = 1 ∨ w = 2 ∨ w = 3 ∨ w = 4 ∨ w = 5 := by omega
    rcases this with rfl | rfl | rfl | rfl | rfl | rfl <;> simp only [wayT] at hr <;> simp -implicitDefEqProofs [hr]
  have r3 : rngOf [.int 2] = some (rngL 0 2) := rngOf_1 2 (by omega)
  have cm : cmpE ⟨P.g, callN P k⟩ (.one 7) [.idx (.var 6) (.var 7)] (.var 7) none [some (.val (.int w)), some (.val a), some (.val b), some (.val c), some (.val (.exc (ecl i) v)), none, some (.val (.lst [.bl (decide (0 = i)), .bl (decide (1 = i))])), none] (rngL 0 2) m = some (.ok (.val (.lst [.int i])) true m) := by
    rw [rngL_range]
    have := cmpE_if (c := ⟨P.g, callN P k⟩) (elt := .var 7) (cd := .idx (.var 6) (.var 7)) (a := none) (m := m) (l := List.range 2) (r := [some (.val (.int w)), some (.val a), some (.val b), some (.val c), some (.val (.exc (ecl i) v)), none, some (.val (.lst [.bl (decide (0 = i)), .bl (decide (1 = i))])), none]) (fun (i : Nat) => D.int (0 + (i : Nat))) (fun (i : Nat) => D.int (i : Nat)) (fun j => decide (j = i)) 7 (fun j hj => ⟨false, by
      have : j = 0 ∨ j = 1 := by have := List.mem_range.1 hj; omega
      rcases this with rfl | rfl <;> simp -implicitDefEqProofs [idx_0, idx_1]⟩) (fun j hj _ => ⟨false, by simp -implicitDefEqProofs []⟩) (by simp [line])
    rw [this]
    rcases ii with rfl | rfl <;> simp [List.range_succ]
  rw [hbody]
  simp -implicitDefEqProofs [f__law_told, hexc, kx, i0, i1, hp, r3, cm, toldI]
/-- what is no worm -/
def badT (w : List Nat) : List D := [.non, .lst (w.map fun (n : Nat) => D.int n), .tup ((w.map fun (n : Nat) => D.int n) ++ [.int 7]), .tup [.bl true], .int 0]
theorem badT_all {w : List Nat} (hw : WormOk w) (hl : w.length ≤ 100) : ∀ d ∈ badT w, BadW d ∧ allB d = false ∧ blt .repr [.tup [d]] = some (.str (reprD (.tup [d])), false) ∧ (D.str (reprD (.tup [d]))).plain = true := by
  have h7 : okRs ((w.map fun (n : Nat) => D.int n) ++ [.int 7]) = true ∧ rwDs ((w.map fun (n : Nat) => D.int n) ++ [.int 7]) = 23 * (w.length + 1) ∧ depths ((w.map fun (n : Nat) => D.int n) ++ [.int 7]) = 0 ∧ szDs ((w.map fun (n : Nat) => D.int n) ++ [.int 7]) = w.length + 1 ∧ plains ((w.map fun (n : Nat) => D.int n) ++ [.int 7]) = true := by
    have e : ((w.map fun (n : Nat) => D.int n) ++ [.int 7]) = ((w.map fun (n : Nat) => (n : Int)) ++ [7]).map D.int := by simp
    rw [e]
    refine ⟨okRs_I fun x hx => ?_, by rw [rwDs_I]; simp, depths_I _, by rw [szDs_I]; simp, plains_int _⟩
    rcases List.mem_append.1 hx with h | h
    · obtain ⟨y, hy, rfl⟩ := List.mem_map.1 h
      have := hw.2 y hy; omega
    · rw [List.mem_singleton.1 h]; decide
  have h0 : okRs (w.map fun (n : Nat) => D.int n) = true ∧ rwDs (w.map fun (n : Nat) => D.int n) = 23 * w.length ∧ depths (w.map fun (n : Nat) => D.int n) = 0 ∧ szDs (w.map fun (n : Nat) => D.int n) = w.length ∧ plains (w.map fun (n : Nat) => D.int n) = true := by
    have e : (w.map fun (n : Nat) => D.int n) = (w.map fun (n : Nat) => (n : Int)).map D.int := by simp
    rw [e]
    refine ⟨okRs_I fun x hx => ?_, by rw [rwDs_I]; simp, depths_I _, by rw [szDs_I]; simp, plains_int _⟩
    obtain ⟨y, hy, rfl⟩ := List.mem_map.1 hx
    have := hw.2 y hy; omega
  have key : ∀ d : D, okR d = true → d.depth ≤ 50 → szD d ≤ 10000 → rwD d ≤ 900000 → wormB d = false → allB d = false → BadW d ∧ allB d = false ∧ blt .repr [.tup [d]] = some (.str (reprD (.tup [d])), false) ∧ (D.str (reprD (.tup [d]))).plain = true := fun d h1 h2 h3 h4 h5 h6 => by
    have r1 := blt_repr h1 (by omega) (by omega)
    have r2 := blt_repr (d := .tup [d]) (by simp [okR, okRs, h1]) (by simp [D.depth, depths]; omega) (by simp [rwD, rwDs]; omega)
    exact ⟨⟨⟨(okR_show d h1).1, by omega, by simp [line]; omega⟩, h5, r1.1, r1.2⟩, h6, r2.1, r2.2⟩
  intro d hd
  simp only [badT, List.mem_cons, List.not_mem_nil, or_false] at hd
  rcases hd with rfl | rfl | rfl | rfl | rfl
  · exact key _ rfl (by decide) (by decide) (by decide) rfl rfl
  · exact key _ (by rw [okR]; exact h0.1) (by rw [D.depth, h0.2.2.1]; omega) (by rw [szD, h0.2.2.2.1]; omega) (by rw [rwD, h0.2.1]; omega) rfl rfl
  · refine key _ (by rw [okR]; exact h7.1) (by rw [D.depth, h7.2.2.1]; omega) (by rw [szD, h7.2.2.2.1]; omega) (by rw [rwD, h7.2.1]; omega) ?_ ?_
    · simp [wormB, btw]
    · rw [allB, List.all_append]; simp [wormB]
  · exact key _ (by decide) (by decide) (by decide +kernel) (by decide) (by decide +kernel) (by decide +kernel)
  · exact key _ (by decide +kernel) (by decide) (by decide) (by decide) rfl rfl
end Wk

set_option linter.all false
set_option maxRecDepth 100000
/-! Wr04b -/
namespace Wk
open PM PY Fn Ma Fk04
open PySem (Str)
variable {P : Pr}
theorem reprW {a : List Nat} (h : WormOk a) : okR (dW a) = true ∧ rwD (dW a) ≤ 10000 ∧ blt .repr [dW a] = some (.str (reprD (dW a)), false) ∧ (D.str (reprD (dW a))).plain = true := by
  have e := dW_dI a
  have h1 : okR (dW a) = true := by
    rw [e, okR, okRs_I fun x hx => by
      obtain ⟨y, hy, rfl⟩ := List.mem_map.1 hx
      have := h.2 y hy
      omega]
  have h2 := dep_W a
  have h3 : rwD (dW a) = 3 + 23 * a.length := by rw [e, rwD, rwDs_I]; simp
  have h4 := h.1
  have := blt_repr h1 (by omega) (by omega)
  exact ⟨h1, by omega, this.1, this.2⟩
theorem told_pl {i : Nat} {s : Str} (h : (D.str s).plain = true) : (toldI i s).plain = true := by
  show (true && ((D.str s).plain && true)) = true
  rw [h]; rfl
theorem told_dp (i : Nat) (s : Str) : (toldI i s).depth ≤ 2 := by simp [toldI, D.depth, depths]
abbrev S_law_refused04 (P : Pr) := ∀ (j : Nat) (m : Mu) (B k : Nat) (w : List Nat), WellAt m j B → B ≤ 900000 → WormOk w → w.length ≤ 100 → 150 ≤ k → ∃ o : Ob, callN P k "_law_refused" [.loc j, .val (dW w)] m = some (.ok (.val (.bl true)) false (m.set j o)) ∧ WellAt (m.set j o) j (B + 1)
theorem t_law_refused04 (fd__law_refused : P.fd "_law_refused" = some f__law_refused) (s__law_draw : S_law_draw P) (s__law_told : S_law_told04 P) (s_head : S_headX P) (s_rest : S_restX P) (s_stands : S_standsX P) (s_both : S_bothX P) (s_implies : S_impliesX P) (s_all_of : S_all_ofX P) : S_law_refused04 P := by
  intro j m B k w hw hB ho hlw hk
  obtain ⟨k, rfl, hj⟩ := at_succ hk
  obtain ⟨k, rfl, hj⟩ := at_succ hj
  rw [callN_at fd__law_refused _ _ _ rfl]
  obtain ⟨v, o, v1, v2, v3⟩ := s__law_draw j 5 m B (k + 1) hw (by omega) (by omega) (by omega) (by omega)
  simp only [Int.cast_ofNat_Int] at v2
  refine ⟨o, ?_, v3⟩
  have hlen : (badT w).length = 5 := rfl
  have hv : v < (badT w).length := by rw [hlen]; exact v1
  obtain ⟨hbad, hall, hrt, hrt2⟩ := badT_all ho hlw _ (List.getElem_mem hv)
  have hidx : idxD (.lst (badT w)) (.int v) = some (badT w)[v] := by
    simp only [idxD, atD, ixN, hlen]
    rw [if_pos (by omega), if_pos (by omega)]
    simp [hv]
  have hl3 : (m.set j o).take m.length = m.set j o := List.take_of_length_le (by simp)
  generalize hm2 : m.set j o = m2 at *
  have kW : Okd (dW w) := okd_W (by omega)
  have rnil : rs 0 w = [] := rs_nil fun _ _ => Nat.zero_le _
  -- numbers
  have rn : ∀ n : Int, n.natAbs ≤ 1000 → blt .repr [.int n] = some (.str (reprD (.int n)), false) := fun n hn => (blt_repr (by simp [okR]; omega) (by simp [D.depth]) (by simp [rwD])).1
  have t0 : callN P (k + 1) "_law_told" [.val (.int (0 : Nat)), .val (.int (-1)), .val (badT w)[v], .val .non] m2 = some (.ok (.val (toldI 1 (reprD (.int (-1))))) false m2) :=
    s__law_told 0 k 1 _ _ _ (.int (-1)) _ m2 (by omega) (by omega) ((s_head (-1) _ k m2 (by omega)).1 (by omega)) (rn _ (by decide))
  have t1 : callN P (k + 1) "_law_told" [.val (.int (1 : Nat)), .val (.int 8), .val (badT w)[v], .val .non] m2 = some (.ok (.val (toldI 1 (reprD (.int 8)))) false m2) :=
    s__law_told 1 k 1 _ _ _ (.int 8) _ m2 (by omega) (by omega) ((s_rest 8 _ k m2 (by omega)).1 (by omega)) (rn _ (by decide))
  have t2 : callN P (k + 1) "_law_told" [.val (.int (2 : Nat)), .val (.int 7), .val (badT w)[v], .val .non] m2 = some (.ok (.val (toldI 1 (reprD (.int 7)))) false m2) :=
    s__law_told 2 k 1 _ _ _ (.int 7) _ m2 (by omega) (by omega) ((s_stands 7 k m2 (by omega)).1 _ _ (by omega)) (rn _ (by decide))
  have y1 : toldI 1 (reprD (.int (-1))) = .tup [.lst [.int 1], .str "-1"] := by rw [toldI, show reprD (.int (-1)) = ("-1" : Str) by decide +kernel]; rfl
  have y2 : toldI 1 (reprD (.int 8)) = .tup [.lst [.int 1], .str "8"] := by rw [toldI, show reprD (.int 8) = ("8" : Str) by decide +kernel]; rfl
  have y3 : toldI 1 (reprD (.int 7)) = .tup [.lst [.int 1], .str "7"] := by rw [toldI, show reprD (.int 7) = ("7" : Str) by decide +kernel]; rfl
  rw [y1] at t0; rw [y2] at t1; rw [y3] at t2
  -- objects
  have t3 : ∀ i : Nat, i < 5 → callN P (k + 1) "_law_told" [.val (.int i), .val (.int 0), .val (badT w)[v], .val .non] m2 = some (.ok (.val (toldI 0 (reprD (badT w)[v]))) false m2) := fun i hi => by
    refine s__law_told i k 0 _ _ _ _ _ m2 (by omega) (by omega) ?_ hbad.rp
    have : i = 0 ∨ i = 1 ∨ i = 2 ∨ i = 3 ∨ i = 4 := by omega
    rcases this with rfl | rfl | rfl | rfl | rfl <;> simp only [wayT]
    · exact (s_head 0 _ k m2 (by omega)).2 (by omega) hbad.ok hbad.no
    · exact (s_rest 0 _ k m2 (by omega)).2 (by omega) hbad.ok hbad.no
    · exact (s_stands 0 k m2 (by omega)).2.1 _ _ (by omega) hbad.ok hbad.no
    · exact (s_both _ _ k m2 hbad.ok (by omega)).1 hbad.no
    · exact (s_implies _ _ k m2 hbad.ok (by omega)).1 hbad.no
  have t4 : ∀ i : Nat, (i = 2 ∨ i = 3 ∨ i = 4) → callN P (k + 1) "_law_told" [.val (.int i), .val (.int 0), .val (dW w), .val (badT w)[v]] m2 = some (.ok (.val (toldI 0 (reprD (badT w)[v]))) false m2) := fun i hi => by
    refine s__law_told i k 0 _ _ _ _ _ m2 (by omega) (by omega) ?_ hbad.rp
    rcases hi with rfl | rfl | rfl <;> simp only [wayT]
    · exact (s_stands 0 k m2 (by omega)).2.2.2.1 w _ (by omega) ho rnil hbad.ok hbad.no
    · exact (s_both _ _ k m2 kW (by omega)).2 (wormB_W.2 ho) hbad.ok hbad.no
    · exact (s_implies _ _ k m2 kW (by omega)).2 (wormB_W.2 ho) hbad.ok hbad.no
  -- lots
  have rw1 := reprW ho
  have lW := blt_repr (d := .lst [dW w]) (by rw [okR, okRs, rw1.1]; rfl) (by simp only [D.depth, depths]; have := dep_W w; simp only [D.depth] at this; omega) (by simp only [rwD, rwDs]; have := rw1.2.1; simp only [rwD] at this; omega)
  have okT : Okd (.tup [(badT w)[v]]) := ⟨by simp [D.plain, plains, hbad.ok.pl], by
    have : (badT w)[v].depth ≤ 50 := by
      have hd : ∀ d ∈ badT w, d.depth ≤ 50 := by
        intro d hd
        simp only [badT, List.mem_cons, List.not_mem_nil, or_false] at hd
        have e : (w.map fun (n : Nat) => D.int n) = (w.map fun (n : Nat) => (n : Int)).map D.int := by simp
        have e7 : ((w.map fun (n : Nat) => D.int n) ++ [.int 7]) = ((w.map fun (n : Nat) => (n : Int)) ++ [7]).map D.int := by simp
        rcases hd with rfl | rfl | rfl | rfl | rfl
        · decide
        · rw [D.depth, e, depths_I]; omega
        · rw [D.depth, e7, depths_I]; omega
        · decide
        · decide
      exact hd _ (List.getElem_mem hv)
    simp only [D.depth, depths]; omega, by
    have : szD (badT w)[v] ≤ 1000 := by
      have hd : ∀ d ∈ badT w, szD d ≤ 1000 := by
        intro d hd
        simp only [badT, List.mem_cons, List.not_mem_nil, or_false] at hd
        have e : (w.map fun (n : Nat) => D.int n) = (w.map fun (n : Nat) => (n : Int)).map D.int := by simp
        have e7 : ((w.map fun (n : Nat) => D.int n) ++ [.int 7]) = ((w.map fun (n : Nat) => (n : Int)) ++ [7]).map D.int := by simp
        rcases hd with rfl | rfl | rfl | rfl | rfl
        · decide
        · rw [szD, e, szDs_I]; simp; omega
        · rw [szD, e7, szDs_I]; simp; omega
        · decide
        · decide
      exact hd _ (List.getElem_mem hv)
    simp only [szD, szDs, line]; omega⟩
  have okL : Okd (.lst [dW w]) := ⟨by rw [D.plain, plains, plain_W]; rfl, by simp only [D.depth, depths]; have := dep_W w; simp only [D.depth] at this; omega, by
    have := kW.sz
    simp only [szD, szDs, line] at *; have : szDs (w.map fun (n : Nat) => D.int n) = w.length := by
      have e : (w.map fun (n : Nat) => D.int n) = (w.map fun (n : Nat) => (n : Int)).map D.int := by simp
      rw [e, szDs_I]; simp
    omega⟩
  have t5 : callN P (k + 1) "_law_told" [.val (.int (5 : Nat)), .val .non, .val (badT w)[v], .val .non] m2 = some (.ok (.val (toldI 0 (reprD (badT w)[v]))) false m2) :=
    s__law_told 5 k 0 _ _ _ _ _ m2 (by omega) (by omega) (s_all_of _ k m2 hbad.ok hall (by omega)) hbad.rp
  have t6 : callN P (k + 1) "_law_told" [.val (.int (5 : Nat)), .val .non, .val (.tup [(badT w)[v]]), .val .non] m2 = some (.ok (.val (toldI 0 (reprD (.tup [(badT w)[v]])))) false m2) :=
    s__law_told 5 k 0 _ _ _ _ _ m2 (by omega) (by omega) (s_all_of _ k m2 okT (by simp [allB, hbad.no]) (by omega)) hrt
  have t7 : callN P (k + 1) "_law_told" [.val (.int (5 : Nat)), .val .non, .val (.lst [dW w]), .val .non] m2 = some (.ok (.val (toldI 0 (reprD (.lst [dW w])))) false m2) :=
    s__law_told 5 k 0 _ _ _ _ _ m2 (by omega) (by omega) (s_all_of _ k m2 okL rfl (by omega)) lW.1
  -- letters too small
  have o1 : WormOk [1] := ⟨by simp, fun x hx => by rw [List.mem_singleton.1 hx]; omega⟩
  have o0 : WormOk [0] := ⟨by simp, fun x hx => by rw [List.mem_singleton.1 hx]; omega⟩
  have o10 : WormOk [1, 0] := ⟨by simp, fun x hx => by simp at hx; omega⟩
  have t8 : callN P (k + 1) "_law_told" [.val (.int (2 : Nat)), .val (.int (1 : Nat)), .val (dW [1]), .val (dW [1, 0])] m2 = some (.ok (.val (toldI 0 (reprD (dW [1, 0])))) false m2) :=
    s__law_told 2 k 0 _ _ _ _ _ m2 (by omega) (by omega) ((s_stands 1 k m2 (by omega)).2.2.2.2 [1] [1, 0] (by omega) o1 (by decide) o10 (by decide)) (by decide +kernel)
  have t9 : callN P (k + 1) "_law_told" [.val (.int (2 : Nat)), .val (.int (1 : Nat)), .val (dW [0]), .val .non] m2 = some (.ok (.val (toldI 0 (reprD (dW [0])))) false m2) :=
    s__law_told 2 k 0 _ _ _ _ _ m2 (by omega) (by omega) ((s_stands 1 k m2 (by omega)).2.2.1 [0] _ (by omega) o0 (by decide)) (by decide +kernel)
  have y8 : toldI 0 (reprD (dW [1, 0])) = .tup [.lst [.int 0], .str "(1, 0)"] := by rw [toldI, show reprD (dW [1, 0]) = ("(1, 0)" : Str) by decide +kernel]; rfl
  have y9 : toldI 0 (reprD (dW [0])) = .tup [.lst [.int 0], .str "(0,)"] := by rw [toldI, show reprD (dW [0]) = ("(0,)" : Str) by decide +kernel]; rfl
  rw [y8] at t8; rw [y9] at t9
  have hrep := hbad.rp
  have hrpl := hbad.pl
  have lW1 := lW.1
  have lW2 := lW.2
  have hbl : badT w = [.non, .lst (w.map fun (n : Nat) => D.int n), .tup ((w.map fun (n : Nat) => D.int n) ++ [.int 7]), .tup [.bl true], .int 0] := rfl
  clear okT okL hall hbad
  generalize (badT w)[v] = bad at *
  rw [hbl] at hidx
  obtain ⟨b, hb⟩ : ∃ b, b = f__law_refused.body := ⟨_, rfl⟩
  have hbl7 : b.length = 5 := by rw [hb]; rfl
  have hs := body_at hb
  rw [← hb, execs_start b, execs_drop b 0 (by omega)]
  have c1 := bop_cat (xs := w.map fun (n : Nat) => D.int n) (ys := [.int 7]) (by simp [line]; omega)
  have li : blt .list [dW w] = some (.lst (w.map fun (n : Nat) => D.int n), true) := rfl
  simp -implicitDefEqProofs [hs, f__law_refused, c1, li, v2, hidx]
  -- 1
  rw [execs_drop b 1 (by omega)]
  simp -implicitDefEqProofs only [hs, f__law_refused, nthS_zero, nthS_succ]
  obtain ⟨E1, hE1⟩ : ∃ E1 : List D, E1 = [.tup [.lst [.int 1], .str "-1"], .tup [.lst [.int 1], .str "8"], .tup [.lst [.int 1], .str "7"]] := ⟨_, rfl⟩
  have k1 : cmpE ⟨P.g, callN P (k + 1)⟩ (.many [3, 4]) [] (.call "_law_told" [(.var 3), (.var 4), (.var 2), (.con .non)] [0, 1, 2, 3]) none [some (.loc j), some (.val (dW w)), some (.val bad), none, none] [.tup [.int 0, .int (-1)], .tup [.int 1, .int 8], .tup [.int 2, .int 7]] m2 = some (.ok (.val (.lst E1)) true m2) := by
    have := cmpE_map2 (c := ⟨P.g, callN P (k + 1)⟩) (elt := .call "_law_told" [(.var 3), (.var 4), (.var 2), (.con .non)] [0, 1, 2, 3]) (a := none) (r := [some (.loc j), some (.val (dW w)), some (.val bad), none, none]) (m := m2) (l := [((0 : Nat), (-1 : Int), ("-1" : Str)), (1, 8, "8"), (2, 7, "7")]) (fun p => D.int (p.1 : Nat)) (fun p => D.int p.2.1) (fun p => .tup [.lst [.int 1], .str p.2.2]) 3 4 (fun p hp => ⟨false, by
      simp only [List.mem_cons, List.not_mem_nil, or_false] at hp
      rcases hp with rfl | rfl | rfl
      · simp -implicitDefEqProofs only [Int.natCast_zero] at t0 ⊢
        simp -implicitDefEqProofs [t0]
      · simp -implicitDefEqProofs only [Int.cast_ofNat_Int] at t1 ⊢
        simp -implicitDefEqProofs [t1]
      · simp -implicitDefEqProofs only [Int.cast_ofNat_Int] at t2 ⊢
        simp -implicitDefEqProofs [t2]⟩) (by simp)
    rw [hE1]
    exact this
  have k2 : cmpE ⟨P.g, callN P (k + 1)⟩ (.one 4) [] (.tup [(.lst [(.con (.int 1))]), (.var 4)]) none [some (.loc j), some (.val (dW w)), some (.val bad), none, none] [.str "-1", .str "8", .str "7"] m2 = some (.ok (.val (.lst E1)) true m2) := by
    rw [hE1]
    refine cmpE_map (l := [("-1" : Str), "8", "7"]) (fun i => D.str i) (fun i => .tup [.lst [.int 1], .str i]) 4 (fun i hi => ⟨false, ?_⟩) (by simp)
    simp -implicitDefEqProofs []
  have n1 := cop_ne_self (d := .lst E1) (by rw [hE1]; decide +kernel) (by rw [hE1]; simp [D.depth, depths])
  generalize dW w = dw at *
  simp -implicitDefEqProofs [k1, k2, n1]
  -- 2
  have hX2 : D.tup [.lst [.int 0], .str (reprD bad)] = toldI 0 (reprD bad) := rfl
  have hXp := told_pl (i := 0) hrpl
  have hXd := told_dp 0 (reprD bad)
  generalize toldI 0 (reprD bad) = X at *
  have k3 : cmpE ⟨P.g, callN P (k + 1)⟩ (.one 3) [] (.call "_law_told" [(.var 3), (.con (.int 0)), (.var 2), (.con .non)] [0, 1, 2, 3]) none [some (.loc j), some (.val dw), some (.val bad), none, none] (rngL 0 5) m2 = some (.ok (.val (.lst [X, X, X, X, X])) true m2) := by
    rw [rngL_range]
    refine cmpE_map (l := List.range 5) (fun (i : Nat) => D.int (0 + (i : Nat))) (fun _ => X) 3 (fun i hi => ⟨false, ?_⟩) (by simp)
    have := t3 i (List.mem_range.1 hi)
    simp -implicitDefEqProofs [this]
  have k4 : cmpE ⟨P.g, callN P (k + 1)⟩ (.one 3) [] (.call "_law_told" [(.var 3), (.con (.int 0)), (.var 1), (.var 2)] [0, 1, 2, 3]) none [some (.loc j), some (.val dw), some (.val bad), none, none] [.int 2, .int 3, .int 4] m2 = some (.ok (.val (.lst [X, X, X])) true m2) := by
    refine cmpE_map (l := [(2 : Nat), 3, 4]) (fun (i : Nat) => D.int (i : Nat)) (fun _ => X) 3 (fun i hi => ⟨false, ?_⟩) (by simp)
    have := t4 i (by simpa using hi)
    simp -implicitDefEqProofs [this]
  have m5 : bop .Mult (.lst [X]) (.int 5) = some (.lst [X, X, X, X, X], true) := by simp [bop, List.replicate]
  have m3 : bop .Mult (.lst [X]) (.int 3) = some (.lst [X, X, X], true) := by simp [bop, List.replicate]
  have n5 := cop_ne_self (d := .lst [X, X, X, X, X]) (by simp [D.plain, plains, hXp]) (by simp [D.depth, depths]; omega)
  have n3 := cop_ne_self (d := .lst [X, X, X]) (by simp [D.plain, plains, hXp]) (by simp [D.depth, depths]; omega)
  have r5 : rngOf [.int 5] = some (rngL 0 5) := rngOf_1 5 (by omega)
  rw [execs_drop b 2 (by omega)]
  simp -implicitDefEqProofs only [hs, f__law_refused, nthS_zero, nthS_succ]
  simp -implicitDefEqProofs [r5, k3, k4, hrep, hX2, m5, m3, n5, n3]
  -- 3
  have hYp := told_pl (i := 0) hrt2
  have hYd := told_dp 0 (reprD (.tup [bad]))
  have hY2 : D.tup [.lst [.int 0], .str (reprD (.tup [bad]))] = toldI 0 (reprD (.tup [bad])) := rfl
  have hZp := told_pl (i := 0) lW2
  have hZd := told_dp 0 (reprD (.lst [dw]))
  have hZ2 : D.tup [.lst [.int 0], .str (reprD (.lst [dw]))] = toldI 0 (reprD (.lst [dw])) := rfl
  generalize toldI 0 (reprD (.tup [bad])) = Y at *
  generalize toldI 0 (reprD (.lst [dw])) = Z at *
  have k5 : cmpE ⟨P.g, callN P (k + 1)⟩ (.one 4) [] (.call "_law_told" [(.con (.int 5)), (.con .non), (.var 4), (.con .non)] [0, 1, 2, 3]) none [some (.loc j), some (.val dw), some (.val bad), none, none] [bad, .tup [bad], .lst [dw]] m2 = some (.ok (.val (.lst [X, Y, Z])) true m2) := by
    refine cmpE_map (l := [(bad, X), (.tup [bad], Y), (.lst [dw], Z)]) (fun p => p.1) (fun p => p.2) 4 (fun p hp => ⟨false, ?_⟩) (by simp)
    simp only [Int.cast_ofNat_Int] at t5 t6 t7
    simp only [List.mem_cons, List.not_mem_nil, or_false] at hp
    rcases hp with rfl | rfl | rfl
    · simp -implicitDefEqProofs [t5]
    · simp -implicitDefEqProofs [t6]
    · simp -implicitDefEqProofs [t7]
  have k6 : cmpE ⟨P.g, callN P (k + 1)⟩ (.one 4) [] (.tup [(.lst [(.con (.int 0))]), (.blt .repr [(.var 4)])]) none [some (.loc j), some (.val dw), some (.val bad), none, none] [bad, .tup [bad], .lst [dw]] m2 = some (.ok (.val (.lst [X, Y, Z])) true m2) := by
    refine cmpE_map (l := [(bad, X), (.tup [bad], Y), (.lst [dw], Z)]) (fun p => p.1) (fun p => p.2) 4 (fun p hp => ⟨false, ?_⟩) (by simp)
    simp only [List.mem_cons, List.not_mem_nil, or_false] at hp
    rcases hp with rfl | rfl | rfl
    · simp -implicitDefEqProofs [hrep, hX2]
    · simp -implicitDefEqProofs [hrt, hY2]
    · simp -implicitDefEqProofs [lW1, hZ2]
  have n6 := cop_ne_self (d := .lst [X, Y, Z]) (by simp [D.plain, plains, hXp, hYp, hZp]) (by simp [D.depth, depths]; omega)
  rw [execs_drop b 3 (by omega)]
  simp -implicitDefEqProofs only [hs, f__law_refused, nthS_zero, nthS_succ]
  simp -implicitDefEqProofs [k5, k6, n6]
  -- 4
  have d1 : dW [1] = .tup [.int 1] := rfl
  have d10 : dW [1, 0] = .tup [.int 1, .int 0] := rfl
  have d0 : dW [0] = .tup [.int 0] := rfl
  rw [d1, d10] at t8
  rw [d0] at t9
  simp only [Int.cast_ofNat_Int] at t8 t9
  have q8 := cop_eq_self (d := .tup [.lst [.int 0], .str "(1, 0)"]) (by decide +kernel) (by decide)
  have q9 := cop_eq_self (d := .tup [.lst [.int 0], .str "(0,)"]) (by decide +kernel) (by decide)
  rw [execs_drop b 4 (by omega)]
  simp -implicitDefEqProofs only [hs, f__law_refused, nthS_zero, nthS_succ]
  simp -implicitDefEqProofs [t8, t9, q8, q9, hl3]
end Wk

set_option linter.all false
set_option maxRecDepth 100000
/-! Wz04 -/
namespace Wk
open PM PY Fn Ma Fk04
open PySem (Str)
variable {P : Pr}
theorem lt_append {A B : List Nat} (hA : Lt7 A) (hB : Lt7 B) : Lt7 (A ++ B) := fun x hx => by
  rcases List.mem_append.1 hx with h | h
  · exact hA x h
  · exact hB x h
theorem bt_of {A B : List Nat} {c : List Tr} (hA : Lt7 A) (hB : Lt7 B) (hs : Sup c (ord A) (ord B)) (hn : nf (Tr.ofL c)) : bt A B = wrm (Tr.ofL c) := by
  rw [bt, (sup_bth (lt_append hA hB)).uniq hs (nf_ord _) hn]
theorem bt_comm {A B : List Nat} (hA : Lt7 A) (hB : Lt7 B) : bt A B = bt B A := by
  have := bt_of hA hB (sup_bt hB hA).symm (nf_ord _)
  rwa [ord_form] at this
theorem bt_self {A : List Nat} (hA : Lt7 A) : bt A A = wrm (Tr.ofL (ord A)) := bt_of hA hA (sup_self _) (nf_ord _)
theorem bt_form {A B : List Nat} (hA : Lt7 A) (hB : Lt7 B) : bt (bt [] A) B = bt A B := by
  have h0 : Lt7 ([] : List Nat) := fun _ h => by cases h
  have e : ord (bt [] A) = ord A := by
    have h1 := sup_bt h0 hA
    rw [ord_nil] at h1
    exact h1.uniq (sup_nil (ord A)).symm (nf_ord _) (nf_ord _)
  have h2 := sup_bt hA hB
  rw [← e] at h2
  rw [bt_of (bt_lt h0 hA) hB h2 (nf_ord _), ord_form]
theorem bt_assoc {A B C : List Nat} (hA : Lt7 A) (hB : Lt7 B) (hC : Lt7 C) : bt (bt A B) C = bt A (bt C B) := by
  have s1 := sup_bt hA hB
  have s2 := sup_bt (bt_lt hA hB) hC
  have s3 := sup_bt hC hB
  have s4 := sup_bt hA (bt_lt hC hB)
  have e : ord (bt (bt A B) C) = ord (bt A (bt C B)) := by
    refine imp_antisymm ?_ ?_
    · refine s4.least _ (nf_ord _) (imp_trans s2.one s1.one) (s3.least _ (nf_ord _) s2.two (imp_trans s2.one s1.two))
    · refine s2.least _ (nf_ord _) (s1.least _ (nf_ord _) s4.one (imp_trans s4.two s3.two)) (imp_trans s4.two s3.one)
  rw [ord_form, ord_form] at e
  rw [bt, e]
theorem dec_bt {A B : List Nat} : decide (bt A B = wrm (Tr.ofL (ord A))) = decide (ord (bth A B) = ord A) := by
  rw [decide_eq_decide]
  constructor
  · intro h
    have := congrArg ord h
    rwa [ord_form, ord_form] at this
  · intro h; rw [bt, h]
theorem dec_imp {A B : List Nat} (hA : Lt7 A) (hB : Lt7 B) : decide (ord (bth A B) = ord A) = impB A B := by
  rw [Bool.eq_iff_iff, decide_eq_true_iff, impB_iff hB, bth_eq (lt_append hA hB)]
theorem imp_bt {A B : List Nat} (hA : Lt7 A) (hB : Lt7 B) : impB (bt A B) A = true ∧ impB (bt A B) B = true :=
  ⟨(impB_iff hA).2 (sup_bt hA hB).one, (impB_iff hB).2 (sup_bt hA hB).two⟩
theorem sgn_neg (a b : List Tr) : sgn b a = - sgn a b := by
  unfold sgn
  cases h1 : Tr.lt (Tr.ofL a) (Tr.ofL b) with
  | true =>
    have : Tr.lt (Tr.ofL b) (Tr.ofL a) = false := by
      rw [Tr.lt_not_le, lt_le h1]; rfl
    rw [this]; simp
  | false => cases h2 : Tr.lt (Tr.ofL b) (Tr.ofL a) <;> simp
theorem sgn_bd (a b : List Tr) : (sgn a b).natAbs ≤ 1 := by unfold sgn; split <;> (try split) <;> decide
theorem tie_lt {A B : List Nat} {n : Nat} (hA : Lt7 A) (hB : Lt7 B) (hn : n ≤ 6) (lA : ∀ x ∈ A, n ≤ x) (lB : ∀ x ∈ B, n ≤ x) : impB B (n :: A) = decide (sgn (ord (lws n A)) (ord (lws n B)) = -1) := by
  have h1 : Lt7 (n :: A) := fun x hx => by rcases List.mem_cons.1 hx with rfl | h; exact hn; exact hA x h
  rw [Bool.eq_iff_iff, decide_eq_true_iff, impB_iff h1, imp_lw (s := n) (fun x hx => by
    rcases List.mem_append.1 hx with h | h
    · exact lB x h
    · rcases List.mem_cons.1 h with rfl | h
      · exact Nat.le_refl _
      · exact lA x h)]
  have e : lws n (n :: A) = 0 :: lws n A := by simp
  rw [e, ord_zero_cons, imp_next (desc_ord _) (desc_ord _), sgn]
  by_cases h : Tr.lt (Tr.ofL (ord (lws n A))) (Tr.ofL (ord (lws n B))) = true
  · simp [ltL, h]
  · rw [if_neg h]
    constructor
    · intro g; exact absurd g h
    · intro g; split at g <;> simp at g
theorem tie_eq {A B : List Nat} {n : Nat} (hA : Lt7 A) (hB : Lt7 B) (lA : ∀ x ∈ A, n ≤ x) (lB : ∀ x ∈ B, n ≤ x) : (impB A B && impB B A) = decide (sgn (ord (lws n A)) (ord (lws n B)) = 0) := by
  rw [Bool.eq_iff_iff, decide_eq_true_iff, Bool.and_eq_true, impB_iff hB, impB_iff hA,
    imp_lw (s := n) (fun x hx => by
      rcases List.mem_append.1 hx with h | h
      · exact lA x h
      · exact lB x h),
    imp_lw (A := B) (B := A) (s := n) (fun x hx => by
      rcases List.mem_append.1 hx with h | h
      · exact lB x h
      · exact lA x h), imp_both, sgn]
  constructor
  · intro h; rw [h, lt_irrefl]; simp
  · intro g
    cases h1 : Tr.lt (Tr.ofL (ord (lws n A))) (Tr.ofL (ord (lws n B))) with
    | true => rw [h1] at g; simp at g
    | false =>
      cases h2 : Tr.lt (Tr.ofL (ord (lws n B))) (Tr.ofL (ord (lws n A))) with
      | true => rw [h1, h2] at g; simp at g
      | false =>
        rw [Tr.lt_not_le] at h1 h2
        exact leL_antisymm (by simpa [leL] using h2) (by simpa [leL] using h1)
theorem tie_gt {A B : List Nat} {n : Nat} (hA : Lt7 A) (hB : Lt7 B) (hn : n ≤ 6) (lA : ∀ x ∈ A, n ≤ x) (lB : ∀ x ∈ B, n ≤ x) : impB A (n :: B) = decide (sgn (ord (lws n A)) (ord (lws n B)) = 1) := by
  rw [tie_lt hB hA hn lB lA, sgn_neg, decide_eq_decide]; omega
theorem anyLt {A B : List Nat} (h : impB A B = true) : ((List.range 8).any fun n => Tr.lt (Tr.ofL (ord (hdn n A))) (Tr.ofL (ord (hdn n B)))) = false := by
  unfold impB at h
  generalize (List.range 8).any _ = b at *
  cases b
  · rfl
  · cases h
theorem repr4W {a b : List Nat} (h : WormOk a) (g : WormOk b) : blt .repr [.lst [dW a, dW a, dW b, dW b]] = some (.str (reprD (.lst [dW a, dW a, dW b, dW b])), false) ∧ cop .NotEq (.str (reprD (.lst [dW a, dW a, dW b, dW b]))) (.str (reprD (.lst [dW a, dW a, dW b, dW b]))) = some false := by
  have h1 := reprW h
  have h2 := reprW g
  have d1 := dep_W a
  have d2 := dep_W b
  generalize dW a = A at *
  generalize dW b = B at *
  have := blt_repr (d := .lst [A, A, B, B]) (by rw [okR, okRs, okRs, okRs, okRs, okRs, h1.1, h2.1]; rfl) (by simp only [D.depth, depths]; omega) (by simp only [rwD, rwDs]; omega)
  exact ⟨this.1, cop_ne_str this.2⟩
end Wk

set_option linter.all false
set_option maxRecDepth 100000
/-! Wl6 -/
namespace Wk
open PM PY Fn Ma
open PySem (Str)
variable {P : Pr}
theorem join_snoc (ps : List (List Nat)) (q : List Nat) : join (ps ++ [q]) = join ps ++ (if ps = [] then [] else [0]) ++ q := by
  cases ps with
  | nil => simp [join]
  | cons p ps =>
    rw [List.cons_append, join_fold, join_fold, jf_snoc]
    simp
theorem join_len (ps : List (List Nat)) (c : Nat) (h : ∀ q ∈ ps, q.length ≤ c) : (join ps).length ≤ ps.length * (c + 1) := by
  cases ps with
  | nil => simp [join]
  | cons p ps =>
    rw [join_fold]
    have h1 := jf_len p ps c fun q hq => h q (.tail _ hq)
    have h2 := h p (.head _)
    rw [List.length_cons, Nat.add_mul]
    omega
theorem wrm_join {h t : Tr} (hh : h ≠ .nil) : wrm (.cons h t) = join (((Tr.kids (.cons h t)).reverse).map fun x => up (wrm x)) := by
  rw [wrm_cons hh, Tr.kids]
  simp
abbrev S_law_worm_of (P : Pr) := ∀ (n : Nat) (t : Tr) (k : Nat) (m : Mu), ht t ≤ n → nodes t ≤ 1000 → n + 1 ≤ k → callN P k "_law_worm_of" [.val (dT t)] m = some (.ok (.val (dW (wrm t))) false m)
theorem t_law_worm_of (fd__law_worm_of : P.fd "_law_worm_of" = some f__law_worm_of) : S_law_worm_of P := by
  intro n
  induction n with
  | zero =>
    intro t k m h1 h2 hk
    obtain ⟨k, rfl, hj⟩ := at_succ hk
    rw [callN_at fd__law_worm_of _ _ _ rfl]
    cases t with
    | cons h t => simp [ht] at h1
    | nil =>
      have e2 : dT .nil = .tup [] := rfl
      have e3 : cop .Eq (.tup []) (.tup []) = some true := by simpa [dL] using cop_eq_nil []
      have e4 := bop_rep (x := .int 0) (n := 0) (by omega) (by omega)
      simp at e4
      rw [e2]
      simp -implicitDefEqProofs [f__law_worm_of, e3, e4, wrm]
  | succ n ih =>
    intro t k m h1 h2 hk
    obtain ⟨k, rfl, hj⟩ := at_succ hk
    rw [callN_at fd__law_worm_of _ _ _ rfl]
    have e1 := cop_eq_nil (Tr.kids t)
    rw [← dT_dL] at e1
    have hlen := len_nodes (Tr.kids t)
    rw [Tr.ofL_kids] at hlen
    have hlt : (dTs t).length = (Tr.kids t).length := by rw [dTs_kids]; simp
    by_cases hz : Tr.kids t = [] ∨ (Tr.kids t).head? = some .nil
    · have e4 := bop_rep (x := .int 0) (n := ((dTs t).length : Nat)) (by omega) (by omega)
      have hw : wrm t = List.replicate (Tr.kids t).length 0 := by
        cases t with
        | nil => rfl
        | cons h t =>
          simp [Tr.kids] at hz
          simp [wrm, hz, Tr.kids]
      rw [hw, ← hlt]
      rcases hz with hz | hz
      · rw [decide_eq_true hz] at e1
        simp -implicitDefEqProofs [f__law_worm_of, e1, e4]
      · cases t with
        | nil => simp [Tr.kids] at hz
        | cons h t =>
          simp [Tr.kids] at hz
          subst hz
          rw [decide_eq_false (by simp [Tr.kids])] at e1
          have e6 := cop_eq_nilT .nil
          rw [decide_eq_true rfl] at e6
          have e7 : idxD (dT (.cons .nil t)) (.int 0) = some (dT .nil) := by rw [dT_dL, Tr.kids]; exact idx_dL _ _
          simp -implicitDefEqProofs [f__law_worm_of, e1, e4, e6, e7]
    · cases t with
      | nil => exact absurd (.inl rfl) hz
      | cons h t =>
        have hh : h ≠ .nil := by intro e; apply hz; simp [Tr.kids, e]
        rw [wrm_join hh]
        rw [decide_eq_false (by simp [Tr.kids])] at e1
        have e6 := cop_eq_nilT h
        rw [decide_eq_false hh] at e6
        have e7 : idxD (dT (.cons h t)) (.int 0) = some (dT h) := by rw [dT_dL, Tr.kids]; exact idx_dL _ _
        generalize hL : Tr.kids (.cons h t) = L at *
        have hr : rngOf [.int (L.length : Nat)] = some (rngL 0 L.length) := rngOf_1 _ (by omega)
        have hbl : blt .len [dT (.cons h t)] = some (.int (L.length : Nat), false) := by rw [← hlt]; rfl
        have e8 : dT (.cons h t) = dL L := by rw [dT_dL, hL]
        rw [e8] at e1 e7 hbl ⊢
        simp -implicitDefEqProofs [f__law_worm_of, e1, e6, e7, hbl, hr]
        rw [← List.map_reverse]
        refine forE_rng (Q := fun x => fin m.length (seqS x _) = some (R.ok (.val (dW (join (L.reverse.map fun x => up (wrm x))))) false m)) (lo := 0) (fun i r m' => m' = m ∧ ∃ x2 x3 x4, r = [some (.val (dL L)), some (.val (dW (join ((L.reverse.take i).map fun x => up (wrm x))))), x2, x3, x4]) L.length ?_ ?_ _ _ ⟨rfl, none, none, none, rfl⟩
        · rintro i r m' hi ⟨rfl, x2, x3, x4, rfl⟩
          refine ⟨_, rfl, ?_⟩
          have hi' : L.length - 1 - i < L.length := by omega
          have ei : ((L.length : Nat) : Int) - 1 - (0 + (i : Int)) = ((L.length - 1 - i : Nat) : Int) := by omega
          have e9 : idxD (dL L) (.int ((L.length - 1 - i : Nat) : Int)) = some (dT L[L.length - 1 - i]) := by
            simp [dL, idxD, atD, ixN, hi']
          have hx : L[L.length - 1 - i] ∈ L := List.getElem_mem _
          have hx' : L[L.length - 1 - i] ∈ Tr.kids (.cons h t) := by rw [hL]; exact hx
          have a1 := ht_kid hx'
          have a2 := nodes_kid hx'
          have e10 := ih (L[L.length - 1 - i]) k m' (by omega) (by omega) (by omega)
          have a3 := wrm_length (L[L.length - 1 - i])
          have hn : i < L.reverse.length := by simpa using hi
          have et : L.reverse.take (i + 1) = L.reverse.take i ++ [L[L.length - 1 - i]] := by
            rw [List.take_succ_eq_append_getElem hn, List.getElem_reverse]
          have hle : ∀ q ∈ ((L.reverse.take i).map fun x => up (wrm x)), q.length ≤ 1000 := by
            intro q hq
            obtain ⟨y, hy, rfl⟩ := List.mem_map.1 hq
            have hy' : y ∈ L := List.mem_reverse.1 (List.mem_of_mem_take hy)
            rw [← hL] at hy'
            have b1 := nodes_kid hy'
            have b2 := wrm_length y
            simp; omega
          have hjl := join_len _ 1000 hle
          have hlt2 : ((L.reverse.take i).map fun x => up (wrm x)).length ≤ 1000 := by simp; omega
          have hjl2 : (join ((L.reverse.take i).map fun x => up (wrm x))).length ≤ 1001000 := Nat.le_trans hjl (Nat.mul_le_mul_right _ hlt2)
          have ej : join ((L.reverse.take (i + 1)).map fun x => up (wrm x)) = join ((L.reverse.take i).map fun x => up (wrm x)) ++ (if i = 0 then [] else [0]) ++ up (wrm L[L.length - 1 - i]) := by
            rw [et, List.map_append, List.map_singleton, join_snoc]
            have : ((L.reverse.take i).map fun x => up (wrm x)) = [] ↔ i = 0 := by
              simp; intro h; subst h; simp at hi
            by_cases hi0 : i = 0
            · rw [if_pos (this.2 hi0), if_pos hi0]
            · rw [if_neg (fun h => hi0 (this.1 h)), if_neg hi0]
          rw [ej]
          generalize hJ : join ((L.reverse.take i).map fun x => up (wrm x)) = J at *
          generalize hX : L[L.length - 1 - i] = X at *
          generalize hq : L.length - 1 - i = q at *
          have c9 : cmpE ⟨P.g, callN P k⟩ (.one 4) [] (.bin .Add (.var 4) (.con (.int 1))) none [some (.val (dL L)), some (.val (dW J)), some (.val (.int (0 + (i : Int)))), some (.val (dW (wrm X))), none] ((wrm X).map fun (n : Nat) => D.int n) m' = some (.ok (.val (.lst ((up (wrm X)).map fun (n : Nat) => D.int n))) true m') := by
            rw [cmpE_map (φ := fun (n : Nat) => D.int n) (ψ := fun (n : Nat) => D.int ((n : Int) + 1)) (l := wrm X)]
            · simp [Function.comp_def]
            · intro x hx; simp
            · simp [line]; omega
          simp only [Int.zero_add] at c9 ei
          have hUl : (up (wrm X)).length ≤ 1000 := by simp; omega
          generalize hU : up (wrm X) = U at *
          by_cases hi0 : i = 0
          · subst hi0
            have b1 := bop_cat (xs := J.map fun (n : Nat) => D.int n) (ys := []) (by simp [line]; omega)
            simp only [List.append_nil] at b1
            have b2 := bop_cat (xs := J.map fun (n : Nat) => D.int n) (ys := U.map fun (n : Nat) => D.int n) (by simp [line]; omega)
            simp only [Int.natCast_zero, Int.sub_zero] at c9 ei
            simp -implicitDefEqProofs [hbl, ei, e9, e10, b1, b2, c9]
          · have hi1 : 0 < i := by omega
            have b1 := bop_cat (xs := J.map fun (n : Nat) => D.int n) (ys := [.int 0]) (by simp [line]; omega)
            have b2 := bop_cat (xs := (J.map fun (n : Nat) => D.int n) ++ [.int 0]) (ys := U.map fun (n : Nat) => D.int n) (by simp [line]; omega)
            simp -implicitDefEqProofs [hbl, ei, e9, e10, hi1, hi0, b1, b2, c9]
        · rintro r m' ⟨rfl, x2, x3, x4, rfl⟩
          have : L.reverse.take L.length = L.reverse := by rw [← List.length_reverse, List.take_length]
          rw [this]
          simp
end Wk

set_option linter.all false
set_option maxRecDepth 100000
/-! Wz04b -/
namespace Wk
open PM PY Fn Ma Fk04
open PySem (Str)
variable {P : Pr}
theorem repr2b (a b : Bool) : ∃ s : Str, blt .repr [.lst [.bl a, .bl b]] = some (.str s, false) ∧ cop .NotEq (.str s) (.str s) = some false :=
  ⟨_, (blt_repr (d := .lst [.bl a, .bl b]) (by cases a <;> cases b <;> rfl) (by simp [D.depth, depths]) (by simp [rwD, rwDs])).1, cop_ne_str (blt_repr (d := .lst [.bl a, .bl b]) (by cases a <;> cases b <;> rfl) (by simp [D.depth, depths]) (by simp [rwD, rwDs])).2⟩
theorem repr3i (a b c : Int) (ha : a.natAbs ≤ 1000) (hb : b.natAbs ≤ 1000) (hc : c.natAbs ≤ 1000) : ∃ s : Str, blt .repr [.lst [.int a, .int b, .int c]] = some (.str s, false) ∧ cop .NotEq (.str s) (.str s) = some false := by
  have := blt_repr (d := .lst [.int a, .int b, .int c]) (by simp [okR, okRs]; omega) (by simp [D.depth, depths]) (by simp [rwD, rwDs])
  exact ⟨_, this.1, cop_ne_str this.2⟩
theorem cop_eq_bls (a b c : Bool) : cop .Eq (.lst [.bl a, .bl b, .bl c]) (.lst [.bl a, .bl b, .bl c]) = some true := cop_eq_self (by rfl) (by simp [D.depth, depths])
abbrev S_law_right04 (P : Pr) := ∀ (j : Nat) (m : Mu) (B k : Nat), WellAt m j B → B ≤ 800000 → 170 ≤ k → ∃ o : Ob, callN P k "_law_right" [.loc j] m = some (.ok (.val (.bl true)) false (m.set j o)) ∧ WellAt (m.set j o) j (B + 200)
theorem t_law_right04 (fd__law_right : P.fd "_law_right" = some f__law_right) (s__law_draw : S_law_draw P) (s__law_worm : S_law_worm P) (s__law_order : S_law_order P) (s__law_worm_of : S_law_worm_of P) (s__law_heads : S_law_heads P) (s__law_implies : S_law_implies P) (s__law_greatest : S_law_greatest P) (s__law_less : S_law_less P) (s__law_refused : S_law_refused04 P) (s_head : S_head P) (s_rest : S_rest P) (s_both : S_both P) (s_implies : S_implies P) (s_all_of : S_all_of P) (s_stands : S_stands P) : S_law_right04 P := by
  intro j m B0 k hw hB hk
  obtain ⟨k, rfl, hj⟩ := at_succ hk
  rw [callN_at fd__law_right _ _ _ rfl]
  -- what is drawn
  obtain ⟨v, o1, v1, v2, v3⟩ := s__law_draw j 3 m B0 k hw (by omega) (by omega) (by omega) (by omega)
  obtain ⟨most, hmost, hidx⟩ : ∃ most : Nat, (most ≤ 3) ∧ idxD (.lst [.int 1, .int 2, .int 3]) (.int v) = some (.int most) := by
    have : v = 0 ∨ v = 1 ∨ v = 2 := by omega
    rcases this with rfl | rfl | rfl
    · exact ⟨1, by omega, rfl⟩
    · exact ⟨2, by omega, rfl⟩
    · exact ⟨3, by omega, rfl⟩
  obtain ⟨A, o2, a1, a2, a3, a4⟩ := s__law_worm j 6 most (m.set j o1) _ k v3 (by omega) (by omega) (by omega) (by omega)
  obtain ⟨B, o3, b1, b2, b3, b4⟩ := s__law_worm j 6 most ((m.set j o1).set j o2) _ k a4 (by omega) (by omega) (by omega) (by omega)
  obtain ⟨C, o4, c1, c2, c3, c4⟩ := s__law_worm j 4 most (((m.set j o1).set j o2).set j o3) _ k b4 (by omega) (by omega) (by omega) (by omega)
  obtain ⟨n, o5, n1, n2, n3⟩ := s__law_draw j 4 ((((m.set j o1).set j o2).set j o3).set j o4) _ k c4 (by omega) (by omega) (by omega) (by omega)
  simp only [Int.cast_ofNat_Int, set_set] at v2 a3 b3 c3 n2 n3
  have hA3 : ∀ x ∈ A, x ≤ 3 := fun x hx => by have := a2 x hx; omega
  have hB3 : ∀ x ∈ B, x ≤ 3 := fun x hx => by have := b2 x hx; omega
  have hA : Lt7 A := fun x hx => by have := hA3 x hx; omega
  have hB' : Lt7 B := fun x hx => by have := hB3 x hx; omega
  have hC : Lt7 C := fun x hx => by have := c2 x hx; omega
  obtain ⟨b, hb⟩ : ∃ b, b = f__law_right.body := ⟨_, rfl⟩
  have hbl : b.length = 19 := by rw [hb]; rfl
  have hs := body_at hb
  rw [← hb, execs_start b, execs_drop b 0 (by omega)]
  simp -implicitDefEqProofs [hs, f__law_right, v2, hidx]
  rw [execs_drop b 1 (by omega)]
  simp -implicitDefEqProofs only [hs, f__law_right, nthS_zero, nthS_succ]
  simp -implicitDefEqProofs [a3, b3, c3]
  rw [execs_drop b 2 (by omega)]
  simp -implicitDefEqProofs only [hs, f__law_right, nthS_zero, nthS_succ]
  simp -implicitDefEqProofs [n2]
  rw [execs_drop b 3 (by omega)]
  simp -implicitDefEqProofs only [hs, f__law_right, nthS_zero, nthS_succ]
  simp -implicitDefEqProofs []
  -- the head
  have oA : WormOk A := ⟨by omega, hA⟩
  have oB : WormOk B := ⟨by omega, hB'⟩
  generalize hm5 : m.set j o5 = m5 at *
  obtain ⟨H, hH⟩ : ∃ H, H = hd n A := ⟨_, rfl⟩
  obtain ⟨R, hR⟩ : ∃ R, R = rs n A := ⟨_, rfl⟩
  have hle : H.length ≤ A.length := by rw [hH]; exact hd_len n A
  rw [execs_drop b 4 (by omega)]
  simp -implicitDefEqProofs only [hs, f__law_right, nthS_zero, nthS_succ]
  have q4 : ∀ (K : Rho → Mu → Option RS), seqS (exec ⟨P.g, callN P k⟩ m.length (.whl (.and (.cmp .Lt (.var 6) (.blt .len [(.var 2)])) (.cmp .GtE (.idx (.var 2) (.var 6)) (.var 5))) [(.set 6 (.bin .Add (.var 6) (.con (.int 1))))]) [some (.loc j), some (.val (.int most)), some (.val (dW A)), some (.val (dW B)), some (.val (dW C)), some (.val (.int n)), some (.val (.int 0)), none, none, none, none, none, none, none, none, none, none, none, none] m5) K = K [some (.loc j), some (.val (.int most)), some (.val (dW A)), some (.val (dW B)), some (.val (dW C)), some (.val (.int n)), some (.val (.int (H.length : Nat))), none, none, none, none, none, none, none, none, none, none, none, none] m5 := by
    intro K
    rw [exec_whl]
    refine whE_inv (Q := fun y => seqS y K = _) (fun c r m' => m' = m5 ∧ ∃ i : Nat, i + c = H.length ∧ r = [some (.loc j), some (.val (.int most)), some (.val (dW A)), some (.val (dW B)), some (.val (dW C)), some (.val (.int n)), some (.val (.int i)), none, none, none, none, none, none, none, none, none, none, none, none]) ?_ _ _ _ ⟨rfl, 0, Nat.zero_add _, rfl⟩
    rintro c r m' ⟨rfl, i, hi, rfl⟩
    obtain ⟨u1, u2, u3, u4⟩ := take_while_at (fun x => decide (n ≤ x)) A i (show i ≤ (hd n A).length by rw [← hH]; omega)
    by_cases hlt : i < H.length
    · rw [hH] at hlt
      obtain ⟨h1, h2⟩ := u1 hlt
      have h3 : ((n : Nat) : Int) ≤ ((A[i] : Nat) : Int) := by have := of_decide_eq_true h2; omega
      have h5 : cop .Lt (.int ((i : Nat) : Int)) (.int ((A.length : Nat) : Int)) = some true := by rw [cop_lt, decide_eq_true (by omega)]
      have h6 : cop .GtE (.int ((A[i] : Nat) : Int)) (.int n) = some true := by rw [cop_ge, decide_eq_true h3]
      have h7 := idx_W h1
      rw [← hH] at hlt
      generalize A[i] = wi at *
      refine ⟨true, false, m', ?_, fun z => (by cases z), fun _ => ?_⟩
      · simp -implicitDefEqProofs [-cop_ge, -cop_lt, h5, h6, h7]
      · simp -implicitDefEqProofs []
        exact ⟨c - 1, by omega, i + 1, by omega, by simp⟩
    · have hi2 : i = H.length := by omega
      refine ⟨false, false, m', ?_, fun _ => ?_, fun z => by cases z⟩
      · by_cases h1 : i < A.length
        · have h3 := of_decide_eq_false (u2 (by rw [hi2, hH]) h1)
          have h5 : cop .Lt (.int ((i : Nat) : Int)) (.int ((A.length : Nat) : Int)) = some true := by rw [cop_lt, decide_eq_true (by omega)]
          have h6 : cop .GtE (.int ((A[i] : Nat) : Int)) (.int n) = some false := by rw [cop_ge, decide_eq_false (by omega)]
          have h7 := idx_W h1
          generalize A[i] = wi at *
          simp -implicitDefEqProofs [-cop_ge, -cop_lt, h5, h6, h7]
        · have h5 : cop .Lt (.int ((i : Nat) : Int)) (.int ((A.length : Nat) : Int)) = some false := by rw [cop_lt, decide_eq_false (by omega)]
          simp -implicitDefEqProofs [-cop_ge, -cop_lt, h5]
      · rw [hi2]; rfl
  rw [q4]
  -- 5
  have eH := s_head n A k m5 (by omega) oA (by omega)
  have eR := s_rest n A k m5 (by omega) oA (by omega)
  have sH := slcW_to A H.length
  have sR := slcW_from A H.length
  have u34 := take_while_at (fun x => decide (n ≤ x)) A (hd n A).length (Nat.le_refl _)
  have u3 : A.take H.length = H := by rw [hH]; exact u34.2.2.1
  have u4 : A.drop H.length = R := by rw [hH, hR]; exact u34.2.2.2
  rw [u3] at sH
  rw [u4] at sR
  rw [← hH] at eH
  rw [← hR] at eR
  have oH : WormOk H := ⟨by omega, fun x hx => hA x (by rw [hH] at hx; exact (hd_mem x hx).1)⟩
  have oR : WormOk R := ⟨by have := rs_len n A; rw [← hR] at this; omega, fun x hx => hA x (by rw [hR] at hx; exact rs_mem x hx)⟩
  obtain ⟨p1, p2⟩ := repr4W oH oR
  have mH : bop .Mult (.lst [dW H]) (.int 2) = some (.lst [dW H, dW H], true) := by simp [bop, List.replicate]
  have mR : bop .Mult (.lst [dW R]) (.int 2) = some (.lst [dW R, dW R], true) := by simp [bop, List.replicate]
  have cHR : bop .Add (.lst [dW H, dW H]) (.lst [dW R, dW R]) = some (.lst [dW H, dW H, dW R, dW R], true) := bop_catL (by simp)
  rw [execs_drop b 5 (by omega)]
  simp -implicitDefEqProofs only [hs, f__law_right, nthS_zero, nthS_succ]
  generalize reprD (.lst [dW H, dW H, dW R, dW R]) = s1 at *
  generalize dW H = dH at *
  generalize dW R = dR at *
  -- what comes of both
  obtain ⟨T, hT⟩ : ∃ T, T = bt A B := ⟨_, rfl⟩
  have tl : T.length ≤ 12 := by have := bt_len A B; rw [← hT] at this; omega
  have tt : Lt7 T := by rw [hT]; exact bt_lt hA hB'
  have oT : WormOk T := ⟨by omega, tt⟩
  have eT : ∀ m, callN P k "both" [.val (dW A), .val (dW B)] m = some (.ok (.val (dW T)) false m) := fun m => by rw [hT]; exact s_both A B k m hA hB' (by omega) (by omega)
  have eT2 : ∀ m, callN P k "both" [.val (dW B), .val (dW A)] m = some (.ok (.val (dW T)) false m) := fun m => by
    rw [s_both B A k m hB' hA (by omega) (by omega), bt_comm hB' hA, hT]
  have lT := s__law_order 6 T k m5 tt (by omega) (by omega) (by omega)
  have htT := ht_ordF 6 T tt
  have wT := s__law_worm_of 7 (Tr.ofL (ord T)) k m5 htT (by have := nodes_le tt; omega) (by omega)
  have eTT : wrm (Tr.ofL (ord T)) = T := by rw [hT, ord_form]
  rw [dT_ofL, eTT] at wT
  have rT := repr2W oT
  have rT1 := rT.1
  have nT := cop_ne_str rT.2
  have m2T : bop .Mult (.lst [dW T]) (.int 2) = some (.lst [dW T, dW T], true) := by simp [bop, List.replicate]
  have iTA := s__law_implies T A k m5 tt hA (by omega) (by omega) (by omega)
  have iTB := s__law_implies T B k m5 tt hB' (by omega) (by omega) (by omega)
  have gT := s__law_greatest A B k m5 (fun x hx => by have := hA3 x hx; omega) (fun x hx => by have := hB3 x hx; omega) (by omega) (by omega) (by omega)
  rw [← hT] at gT
  have ibt := imp_bt hA hB'
  rw [← hT] at ibt
  have an1 := any_lst (fun n => Tr.lt (Tr.ofL (ord (hdn n T))) (Tr.ofL (ord (hdn n A)))) (List.range 8)
  have an2 := any_lst (fun n => Tr.lt (Tr.ofL (ord (hdn n T))) (Tr.ofL (ord (hdn n B)))) (List.range 8)
  rw [anyLt ibt.1] at an1
  rw [anyLt ibt.2] at an2
  rw [ibt.1] at iTA
  rw [ibt.2] at iTB
  have hAh := s__law_heads A 7 k m5 hA (by omega) (by omega) (by omega)
  have hBh := s__law_heads B 7 k m5 hB' (by omega) (by omega) (by omega)
  have hTh := s__law_heads T 7 k m5 tt (by omega) (by omega) (by omega)
  simp only [Int.cast_ofNat_Int, Nat.reduceAdd] at hAh hBh hTh
  have zz : ∀ (X : List Nat) (u0 u1 u2 u3 u4 u5 u6 u7 u8 u9 u10 u13 u14 u15 u16 u17 u18 : Option PY.T), Lt7 X → cmpE ⟨P.g, callN P k⟩ (.many [11, 12]) [] (.call "_law_less" [(.var 11), (.var 12)] [0, 1]) none [u0, u1, u2, u3, u4, u5, u6, u7, u8, u9, u10, none, none, u13, u14, u15, u16, u17, u18] (zipD (dHs T 8) (dHs X 8)) m5 = some (.ok (.val (.lst ((List.range 8).map fun n => .bl (Tr.lt (Tr.ofL (ord (hdn n T))) (Tr.ofL (ord (hdn n X))))))) true m5) := fun X u0 u1 u2 u3 u4 u5 u6 u7 u8 u9 u10 u13 u14 u15 u16 u17 u18 hX => by
    rw [zipD_same]
    refine cmpE_map2 (l := List.range 8) (fun i => dL (ord (hdn i T))) (fun i => dL (ord (hdn i X))) (fun n => .bl (Tr.lt (Tr.ofL (ord (hdn n T))) (Tr.ofL (ord (hdn n X))))) 11 12 (fun n hn => ⟨false, ?_⟩) (by simp [line])
    have := s__law_less 7 (Tr.ofL (ord (hdn n T))) (Tr.ofL (ord (hdn n X))) k m5 (ht_hdn n tt) (ht_hdn n hX) (by omega)
    rw [dT_ofL, dT_ofL] at this
    simp -implicitDefEqProofs [this]
  have zA := fun u0 u1 u2 u3 u4 u5 u6 u7 u8 u9 u10 u13 u14 u15 u16 u17 u18 => zz A u0 u1 u2 u3 u4 u5 u6 u7 u8 u9 u10 u13 u14 u15 u16 u17 u18 hA
  have zB := fun u0 u1 u2 u3 u4 u5 u6 u7 u8 u9 u10 u13 u14 u15 u16 u17 u18 => zz B u0 u1 u2 u3 u4 u5 u6 u7 u8 u9 u10 u13 u14 u15 u16 u17 u18 hB'
  clear zz
  -- grouped, of itself, of all
  have tC : Lt7 (bt C B) := bt_lt hC hB'
  have cbl := bt_len C B
  have e11a := s_both T C k m5 tt hC (by omega) (by omega)
  have e11b := s_both C B k m5 hC hB' (by omega) (by omega)
  have e11c := s_both A (bt C B) k m5 hA tC (by omega) (by omega)
  have eas := bt_assoc hA hB' hC
  rw [← hT] at eas
  rw [← eas] at e11c
  have n11a := neW (bt T C)
  have e11d := s_both A A k m5 hA hA (by omega) (by omega)
  rw [bt_self hA] at e11d
  have lA := s__law_order 6 A k m5 hA (by omega) (by omega) (by omega)
  have htA := ht_ordF 6 A hA
  have wA := s__law_worm_of 7 (Tr.ofL (ord A)) k m5 htA (by have := nodes_le hA; omega) (by omega)
  rw [dT_ofL] at wA
  have n11b := neW (wrm (Tr.ofL (ord A)))
  have e11e := s_all_of [A, B, C] k m5 (fun w hw => by
    simp only [List.mem_cons, List.not_mem_nil, or_false] at hw
    rcases hw with rfl | rfl | rfl <;> assumption) (by simp; omega) (by simp) (by omega)
  have e11f := s_all_of [] k m5 (fun w hw => by cases hw) (by simp) (by simp) (by omega)
  simp only [List.foldl_cons, List.foldl_nil, List.map_cons, List.map_nil, bt_form hA hB', ← hT] at e11e e11f
  have n11c := ne_nilW []
  rw [decide_eq_true rfl] at n11c
  simp only [Bool.not_true] at n11c
  -- six pairs
  have q12 : ∀ (K : Rho → Mu → Option RS) (u1 u4 u5 u6 u8 u9 u10 : Option PY.T), ∃ y11 y12 y13 : Option PY.T, seqS (exec ⟨P.g, callN P k⟩ m.length (nthS b 12) [some (.loc j), u1, some (.val (dW A)), some (.val (dW B)), u4, u5, u6, some (.val (dW T)), u8, u9, u10, none, none, none, none, none, none, none, none] m5) K = K [some (.loc j), u1, some (.val (dW A)), some (.val (dW B)), u4, u5, u6, some (.val (dW T)), u8, u9, u10, y11, y12, y13, none, none, none, none, none] m5 := by
    intro K u1 u4 u5 u6 u8 u9 u10
    simp -implicitDefEqProofs only [hs, f__law_right, nthS_zero, nthS_succ]
    have c0 := cat_W (a := [0]) (b := A) (by simp; omega)
    rw [show dW [0] = .tup [.int 0] from rfl] at c0
    have h0A : Lt7 ([0] ++ A) := lt_append (fun x hx => by rw [List.mem_singleton.1 hx]; omega) hA
    obtain ⟨L, hL⟩ : ∃ L : List (List Nat × List Nat), L = [(A, B), (T, A), (A, T), ([0] ++ A, A), (A, [0] ++ A), (A, A)] := ⟨_, rfl⟩
    have hLok : ∀ p ∈ L, Lt7 p.1 ∧ Lt7 p.2 ∧ p.1.length ≤ 20 ∧ p.2.length ≤ 20 := by
      intro p hp
      rw [hL] at hp
      simp only [List.mem_cons, List.not_mem_nil, or_false] at hp
      rcases hp with rfl | rfl | rfl | rfl | rfl | rfl
      · exact ⟨hA, hB', by show A.length ≤ 20; omega, by show B.length ≤ 20; omega⟩
      · exact ⟨tt, hA, by show T.length ≤ 20; omega, by show A.length ≤ 20; omega⟩
      · exact ⟨hA, tt, by show A.length ≤ 20; omega, by show T.length ≤ 20; omega⟩
      · exact ⟨h0A, hA, by simp; omega, by show A.length ≤ 20; omega⟩
      · exact ⟨hA, h0A, by show A.length ≤ 20; omega, by simp; omega⟩
      · exact ⟨hA, hA, by show A.length ≤ 20; omega, by show A.length ≤ 20; omega⟩
    have hLd : [D.tup [dW A, dW B], .tup [dW T, dW A], .tup [dW A, dW T], .tup [dW ([0] ++ A), dW A], .tup [dW A, dW ([0] ++ A)], .tup [dW A, dW A]] = L.map fun p => .tup [dW p.1, dW p.2] := by rw [hL]; rfl
    generalize dW ([0] ++ A) = d0A at *
    have ev1 : ∀ (x11 x12 x13 : Option PY.T), bndIS (evI ⟨P.g, callN P k⟩ (.tup [(.tup [(.var 2), (.var 3)]), (.tup [(.var 7), (.var 2)]), (.tup [(.var 2), (.var 7)]), (.tup [(.bin .Add (.tup [(.con (.int 0))]) (.var 2)), (.var 2)]), (.tup [(.var 2), (.bin .Add (.tup [(.con (.int 0))]) (.var 2))]), (.tup [(.var 2), (.var 2)])]) [some (.loc j), u1, some (.val (dW A)), some (.val (dW B)), u4, u5, u6, some (.val (dW T)), u8, u9, u10, none, none, none, none, none, none, none, none] m5) = bndIS (some (.ok (L.map fun p => D.tup [dW p.1, dW p.2]) none m5)) := fun _ _ _ => by
      rw [← hLd]
      generalize dW A = dA at *
      generalize dW B = dB at *
      generalize dW T = dT' at *
      simp -implicitDefEqProofs [c0]
    rw [exec_for, ev1 none none none, bndIS_ok]
    refine forE_inv (φ := fun p : List Nat × List Nat => D.tup [dW p.1, dW p.2]) (Q := fun y => ∃ y11 y12 y13 : Option PY.T, seqS y K = K [some (.loc j), u1, some (.val (dW A)), some (.val (dW B)), u4, u5, u6, some (.val (dW T)), u8, u9, u10, y11, y12, y13, none, none, none, none, none] m5) (fun rem r m' => m' = m5 ∧ (∀ p ∈ rem, p ∈ L) ∧ ∃ y11 y12 y13 : Option PY.T, r = [some (.loc j), u1, some (.val (dW A)), some (.val (dW B)), u4, u5, u6, some (.val (dW T)), u8, u9, u10, y11, y12, y13, none, none, none, none, none]) ?_ ?_ _ _ _ ⟨rfl, fun _ h => h, none, none, none, rfl⟩
    · rintro ⟨X, Y⟩ l r m' ⟨rfl, hin, y11, y12, y13, rfl⟩
      refine ⟨_, rfl, ?_⟩
      obtain ⟨x1, x2, x3, x4⟩ := hLok (X, Y) (hin _ (.head _))
      simp only at x1 x2 x3 x4
      have i1 := s__law_implies X Y k m' x1 x2 (by omega) (by omega) (by omega)
      have i2 := s_implies X Y k m' x1 x2 (by omega) (by omega)
      rw [dec_imp x1 x2] at i2
      have i3 := s_both X Y k m' x1 x2 (by omega) (by omega)
      have lX := s__law_order 6 X k m' x1 (by omega) (by omega) (by omega)
      have htX := ht_ordF 6 X x1
      have wX := s__law_worm_of 7 (Tr.ofL (ord X)) k m' htX (by have := nodes_le x1; omega) (by omega)
      rw [dT_ofL] at wX
      have eX := eq_W (bt X Y) (wrm (Tr.ofL (ord X)))
      rw [dec_bt, dec_imp x1 x2] at eX
      obtain ⟨s2, p3, p4⟩ := repr2b (impB X Y) (impB X Y)
      have nb := cop_ne_bl (impB X Y) (impB X Y)
      rw [bne_self_eq_false] at nb
      have hrest : ∀ a b : List Nat, (a, b) ∈ l → (a, b) ∈ L := fun a b hp => hin (a, b) (.tail _ hp)
      generalize impB X Y = bb at *
      generalize dW X = dX at *
      generalize dW Y = dY at *
      generalize dW (bt X Y) = dXY at *
      generalize dW (wrm (Tr.ofL (ord X))) = dFX at *
      generalize dL (ord X) = dOX at *
      generalize dW A = dA at *
      generalize dW B = dB at *
      generalize dW T = dT' at *
      simp -implicitDefEqProofs [i1, i2, i3, lX, wX, eX, p3, p4, nb]
      exact hrest
    · rintro r m' ⟨rfl, _, y11, y12, y13, rfl⟩
      exact ⟨y11, y12, y13, rfl⟩
  -- in the line
  obtain ⟨mn, mn1, mn2, mn3⟩ := min_W (w := A ++ B ++ [6]) (by simp)
  have mn6 : mn ≤ 6 := mn3 6 (by simp)
  have mnA : ∀ x ∈ A, mn ≤ x := fun x hx => mn3 x (by simp [hx])
  have mnB : ∀ x ∈ B, mn ≤ x := fun x hx => mn3 x (by simp [hx])
  have cAB := cat_W (a := A) (b := B) (by omega)
  have cAB6 := cat_W (a := A ++ B) (b := [6]) (by simp; omega)
  rw [show dW [6] = .tup [.int 6] from rfl] at cAB6
  have cs : ∀ (X : List Nat) (u : Rho), u.length = 1 → True := fun _ _ _ => trivial
  have cm : ∀ (X : List Nat), (∀ x ∈ X, mn ≤ x) → X.length ≤ 100 → ∀ (u0 u1 u2 u3 u4 u5 u6 u7 u8 u9 u10 u11 u12 u13 u15 u16 u18 : Option PY.T), cmpE ⟨P.g, callN P k⟩ (.one 17) [] (.bin .Sub (.var 17) (.var 14)) none [u0, u1, u2, u3, u4, u5, u6, u7, u8, u9, u10, u11, u12, u13, some (.val (.int mn)), u15, u16, none, u18] (X.map fun (n : Nat) => D.int n) m5 = some (.ok (.val (.lst ((lws mn X).map fun (n : Nat) => D.int n))) true m5) := fun X hX hXl u0 u1 u2 u3 u4 u5 u6 u7 u8 u9 u10 u11 u12 u13 u15 u16 u18 => by
    rw [cmpE_map (φ := fun (n : Nat) => D.int n) (ψ := fun (n : Nat) => D.int ((n - mn : Nat) : Int)) (l := X)]
    · simp [Function.comp_def]
    · intro x hx
      have hx2 := hX x hx
      have e : (x : Int) - (mn : Int) = ((x - mn : Nat) : Int) := by omega
      refine ⟨false, ?_⟩
      simp -implicitDefEqProofs [e]
    · simp [line]; omega
  have cmA := cm A mnA (by omega)
  have cmB := cm B mnB (by omega)
  clear cm cs
  have tlA : blt .tuple [.lst ((lws mn A).map fun (n : Nat) => D.int n)] = some (dW (lws mn A), false) := rfl
  have tlB : blt .tuple [.lst ((lws mn B).map fun (n : Nat) => D.int n)] = some (dW (lws mn B), false) := rfl
  have oA14 := s__law_order 6 (lws mn A) k m5 (lw6 A mn hA) (by omega) (by simp; omega) (by omega)
  have oB14 := s__law_order 6 (lws mn B) k m5 (lw6 B mn hB') (by omega) (by simp; omega) (by omega)
  have l1 := s__law_less 7 (Tr.ofL (ord (lws mn A))) (Tr.ofL (ord (lws mn B))) k m5 (ht_lw hA) (ht_lw hB') (by omega)
  have l2 := s__law_less 7 (Tr.ofL (ord (lws mn B))) (Tr.ofL (ord (lws mn A))) k m5 (ht_lw hB') (ht_lw hA) (by omega)
  rw [dT_ofL, dT_ofL] at l1 l2
  have st1 := s_stands mn A B k m5 mn6 oA oB mnA mnB (by omega)
  have st2 := s_stands mn B A k m5 mn6 oB oA mnB mnA (by omega)
  rw [sgn_neg (ord (lws mn A)) (ord (lws mn B))] at st2
  have ti1 := tie_lt hA hB' mn6 mnA mnB
  have ti2 := tie_eq hA hB' mnA mnB
  have ti3 := tie_gt hA hB' mn6 mnA mnB
  have cmA1 := cat_W (a := [mn]) (b := A) (by simp; omega)
  have cmB1 := cat_W (a := [mn]) (b := B) (by simp; omega)
  rw [show dW [mn] = .tup [.int mn] from rfl] at cmA1 cmB1
  rw [List.singleton_append] at cmA1 cmB1
  have hmA : Lt7 (mn :: A) := fun x hx => by rcases List.mem_cons.1 hx with rfl | h; exact mn6; exact hA x h
  have hmB : Lt7 (mn :: B) := fun x hx => by rcases List.mem_cons.1 hx with rfl | h; exact mn6; exact hB' x h
  have li1 := s__law_implies B (mn :: A) k m5 hB' hmA (by omega) (by simp; omega) (by omega)
  have li2 := s__law_implies A B k m5 hA hB' (by omega) (by omega) (by omega)
  have li3 := s__law_implies B A k m5 hB' hA (by omega) (by omega) (by omega)
  have li4 := s__law_implies A (mn :: B) k m5 hA hmB (by omega) (by simp; omega) (by omega)
  obtain ⟨sg, hsg⟩ : ∃ sg, sg = sgn (ord (lws mn A)) (ord (lws mn B)) := ⟨_, rfl⟩
  have sg1 : sg.natAbs ≤ 1 := by rw [hsg]; exact sgn_bd _ _
  have e15 : ∀ (K : Rho → Mu → Option RS) (r : Rho), r.length = 19 → getV r 15 = some (.val (dL (ord (lws mn A)))) → getV r 16 = some (.val (dL (ord (lws mn B)))) → seqS (exec ⟨P.g, callN P k⟩ m.length (nthS b 15) r m5) K = K (r.set 13 (some (.val (.int sg)))) m5 := by
    intro K r hr h15 h16
    simp -implicitDefEqProofs only [hs, f__law_right, nthS_zero, nthS_succ]
    rw [hsg, sgn]
    cases g1 : Tr.lt (Tr.ofL (ord (lws mn A))) (Tr.ofL (ord (lws mn B))) with
    | true =>
      rw [g1] at l1
      simp -implicitDefEqProofs [h15, h16, l1, hr]
    | false =>
      rw [g1] at l1
      cases g2 : Tr.lt (Tr.ofL (ord (lws mn B))) (Tr.ofL (ord (lws mn A))) with
      | true =>
        rw [g2] at l2
        simp -implicitDefEqProofs [h15, h16, l1, l2, hr]
      | false =>
        rw [g2] at l2
        simp -implicitDefEqProofs [h15, h16, l1, l2, hr]
  rw [← hsg] at st1 st2 ti1 ti2 ti3
  obtain ⟨s3, p5, p6⟩ := repr3i sg sg (-sg) (by omega) (by omega) (by omega)
  have eqb := cop_eq_bls (decide (sg = -1)) (decide (sg = 0)) (decide (sg = 1))
  have li2' := li2
  have li3' := li3
  rw [ti1] at li1
  rw [ti3] at li4
  obtain ⟨o6, r1, r2⟩ := s__law_refused j m5 _ k A n3 (by omega) oA (by omega) (by omega)
  rw [← hm5, set_set] at r2
  have r1' : callN P k "_law_refused" [.loc j, .val (dW A)] m5 = some (.ok (.val (.bl true)) false (m.set j o6)) := by
    rw [r1, ← hm5, set_set]
  refine ⟨o6, ?_, r2.mono (by omega)⟩
  have hl7 : (m.set j o6).take m.length = m.set j o6 := List.take_of_length_le (by simp)
  have e11f' : callN P k "all_of" [.val (.tup [])] m5 = some (.ok (.val (.tup [])) false m5) := e11f
  have n11c' : cop .NotEq (.tup []) (.tup []) = some false := n11c
  clear e11f n11c
  generalize hdA : dW A = dA at *
  generalize hdB : dW B = dB at *
  generalize hdC : dW C = dC at *
  generalize hdT : dW T = dT' at *
  generalize dHs A 8 = HA at *
  generalize dHs B 8 = HB at *
  generalize dHs T 8 = HT at *
  generalize (List.range 8).map (fun n => D.bl (Tr.lt (Tr.ofL (ord (hdn n T))) (Tr.ofL (ord (hdn n A))))) = LA at *
  generalize (List.range 8).map (fun n => D.bl (Tr.lt (Tr.ofL (ord (hdn n T))) (Tr.ofL (ord (hdn n B))))) = LB at *
  generalize reprD (.lst [dT', dT']) = s2 at *
  generalize dW (bt T C) = dTC at *
  generalize dW (bt C B) = dCB at *
  generalize dW (wrm (Tr.ofL (ord A))) = dFA at *
  generalize dL (ord A) = dOA at *
  generalize dL (ord T) = dOT at *
  generalize dW (lws mn A) = dlA at *
  generalize dW (lws mn B) = dlB at *
  generalize (lws mn A).map (fun (n : Nat) => D.int n) = LwA at *
  generalize (lws mn B).map (fun (n : Nat) => D.int n) = LwB at *
  generalize dL (ord (lws mn A)) = dolA at *
  generalize dL (ord (lws mn B)) = dolB at *
  generalize dW (mn :: A) = dmA at *
  generalize dW (mn :: B) = dmB at *
  generalize dW (A ++ B) = dAB at *
  generalize dW (A ++ B ++ [6]) = dAB6 at *
  simp -implicitDefEqProofs [eH, eR, sH, sR, mH, mR, cHR, p1, p2]
  rw [execs_drop b 6 (by omega)]
  simp -implicitDefEqProofs only [hs, f__law_right, nthS_zero, nthS_succ]
  simp -implicitDefEqProofs [eT]
  rw [execs_drop b 7 (by omega)]
  simp -implicitDefEqProofs only [hs, f__law_right, nthS_zero, nthS_succ]
  simp -implicitDefEqProofs [eT2, rT1, lT, wT, m2T, nT, iTA, iTB, gT]
  rw [execs_drop b 8 (by omega)]
  simp -implicitDefEqProofs only [hs, f__law_right, nthS_zero, nthS_succ]
  simp -implicitDefEqProofs [hAh, hBh]
  rw [execs_drop b 9 (by omega)]
  simp -implicitDefEqProofs only [hs, f__law_right, nthS_zero, nthS_succ]
  simp -implicitDefEqProofs [hTh]
  rw [execs_drop b 10 (by omega)]
  simp -implicitDefEqProofs only [hs, f__law_right, nthS_zero, nthS_succ]
  simp -implicitDefEqProofs [zA, zB, an1, an2]
  rw [execs_drop b 11 (by omega)]
  simp -implicitDefEqProofs only [hs, f__law_right, nthS_zero, nthS_succ]
  simp -implicitDefEqProofs [eT, e11a, e11b, e11c, n11a, e11d, lA, wA, n11b, e11e, e11f', n11c']
  obtain ⟨y11, y12, y13, q12⟩ := q12 (fun r1 m1 => execs ⟨P.g, callN P k⟩ m.length (restS b (12 + 1)) r1 m1) (some (.val (.int most))) (some (.val dC)) (some (.val (.int n))) (some (.val (.int (H.length : Nat)))) (some (.val (.lst HA))) (some (.val (.lst HB))) (some (.val (.lst HT)))
  rw [execs_drop b 12 (by omega), q12]
  rw [execs_drop b 13 (by omega)]
  simp -implicitDefEqProofs only [hs, f__law_right, nthS_zero, nthS_succ]
  simp -implicitDefEqProofs [cAB, cAB6, mn1]
  rw [execs_drop b 14 (by omega)]
  simp -implicitDefEqProofs only [hs, f__law_right, nthS_zero, nthS_succ]
  rw [← hdA, ← hdB]
  simp -implicitDefEqProofs [cmA, cmB, tlA, tlB, oA14, oB14]
  rw [hdA, hdB]
  rw [execs_drop b 15 (by omega), e15 _ _ rfl rfl rfl]
  simp only [List.set]
  rw [execs_drop b 16 (by omega)]
  simp -implicitDefEqProofs only [hs, f__law_right, nthS_zero, nthS_succ]
  simp -implicitDefEqProofs [st1, st2, p5, p6]
  have ev17 : ∀ (u0 u1 u4 u5 u6 u7 u8 u9 u10 u11 u12 u13 u14 u15 u16 u17 u18 : Option PY.T), ev ⟨P.g, callN P k⟩ (.and (.call "_law_implies" [(.var 2), (.var 3)] [0, 1]) (.call "_law_implies" [(.var 3), (.var 2)] [0, 1])) [u0, u1, some (.val dA), some (.val dB), u4, u5, u6, u7, u8, u9, u10, u11, u12, u13, u14, u15, u16, u17, u18] m5 = some (.ok (.val (.bl (decide (sg = 0)))) false m5) := fun u0 u1 u4 u5 u6 u7 u8 u9 u10 u11 u12 u13 u14 u15 u16 u17 u18 => by
    rw [← ti2]
    generalize impB A B = b1 at *
    generalize impB B A = b2 at *
    cases b1 <;> simp -implicitDefEqProofs [li2, li3]
  rw [execs_drop b 17 (by omega)]
  simp -implicitDefEqProofs only [hs, f__law_right, nthS_zero, nthS_succ]
  simp -implicitDefEqProofs [-ev_and, ev17, cmA1, cmB1, li1, li4]
  rw [execs_drop b 18 (by omega)]
  simp -implicitDefEqProofs only [hs, f__law_right, nthS_zero, nthS_succ]
  simp -implicitDefEqProofs [eqb, r1', hl7]
end Wk

set_option Elab.async false
set_option linter.all false
set_option maxRecDepth 100000
/-! PyCmp -/
namespace PY
open PySem PySem.SeqAt
open PySem.AutoSeq1 (wpAny_loadPart')
open PySem.MeetsSeq PySem.MeetsSeq2 PySem.MeetsSeq3
open _root_.Ob (RcOp lexAt lexAt_zero lexAt_succ)
/-- the pairs ahead of j are equal, this one is not -/
def Fst (e : Nat → Bool) (j : Nat) : Prop := (∀ i, i < j → e i = true) ∧ e j = false

theorem tup_lt (l b : Addr) (us vs : Array Value) (n n2 : Nat) (d1 d2 : Option Addr) (s1 s2 : Array (Option Value)) (e r : Nat → Bool) :
    Meets (Builtin.«tuple.__lt__» ⟨[.ref l, .ref b], []⟩) (fun A R s =>
      s.heap.get? l = some { cls := .type "tuple", dict := d1, data := .seq us n, slots := s1 } ∧
      s.heap.get? b = some { cls := .type "tuple", dict := d2, data := .seq vs n2, slots := s2 } ∧
      (∀ j (h1 : j < us.size) (h2 : j < vs.size), EqAt A.in1 s us[j] vs[j] (e j)) ∧
      (∀ j (h1 : j < us.size) (h2 : j < vs.size), Fst e j → RcOp .Lt A.in1 s us[j] vs[j] (r j)) ∧
      R (.ok (.ret (.bool (lexAt e r (decide (us.size < vs.size)) 0 (min us.size vs.size))))) s) :=
  .of_wp fun prog w A R s h => by
    obtain ⟨hp, g, d, tk, os⟩ := s
    obtain ⟨hl, hb, he, hr, h⟩ := h
    have f2 := AutoSeq1.sub_tuple_tuple
    have hZ : (us.toList.zip vs.toList).length = min us.size vs.size := by simp
    wp_walk using wpAny_loadPart' hl, wpAny_loadPart' hb, wpAny_forIn_list _ (fun rest b s' => b.1 = none ∧ s' = ⟨hp, g, d, tk, os⟩ ∧ ∃ i, (∀ k, k < i → e k = true) ∧ rest = (us.toList.zip vs.toList).drop i ∧
      R (.ok (.ret (.bool (lexAt e r (decide (us.size < vs.size)) i (min us.size vs.size - i))))) ⟨hp, g, d, tk, os⟩) _
    case turn =>
      rintro ⟨y, x⟩ rest b s' ⟨hb', rfl, i, hpre, hz, hR⟩
      have hlt : i < (us.toList.zip vs.toList).length := Nat.lt_of_not_le fun hge => by rw [List.drop_of_length_le hge] at hz; cases hz
      have hm : i < min us.size vs.size := by rw [← hZ]; exact hlt
      have h1 : i < us.size := by omega
      have h2 : i < vs.size := by omega
      rw [List.drop_eq_getElem_cons hlt] at hz
      injection hz with hyx hrest
      obtain rfl : y = us[i] := by simpa using congrArg Prod.fst hyx
      obtain rfl : x = vs[i] := by simpa using congrArg Prod.snd hyx
      rw [show min us.size vs.size - i = (min us.size vs.size - (i + 1)) + 1 by omega, lexAt_succ] at hR
      refine wpAny_bind (he i h1 h2 prog w _ _ ?_)
      cases hei : e i with
      | true =>
        rw [hei, if_pos rfl] at hR
        wp_walk
        exact ⟨rfl, rfl, i + 1, fun k hk => (Nat.lt_succ_iff_lt_or_eq.mp hk).elim (hpre k) fun z => z ▸ hei, hrest, hR⟩
      | false =>
        rw [hei, if_neg Bool.false_ne_true] at hR
        have hri := hr i h1 h2 ⟨hpre, hei⟩ prog w
        wp_walk using hri
        exact ⟨_, rfl, by simpa using hR⟩
    case fin =>
      rintro ⟨b1, b2⟩ s' ⟨hb', rfl, i, _, hz, hR⟩
      simp only at hb'
      subst hb'
      have hge : min us.size vs.size ≤ i := by
        rw [← hZ]
        exact Nat.le_of_not_lt fun hlt => by rw [List.drop_eq_getElem_cons hlt] at hz; cases hz
      rw [Nat.sub_eq_zero_of_le hge, lexAt_zero] at hR
      wp_walk
      exact ⟨_, rfl, by simpa [Builtin.Tuple.tupleCompareSizes] using hR⟩
    case h => exact ⟨rfl, rfl, 0, fun k hk => absurd hk (Nat.not_lt_zero k), rfl, by simpa using h⟩
theorem tups_lt {A : Around} {s : Shared} {l b : Addr} {us vs : Array Value} {e r : Nat → Bool} (hl : s.heap.IsTuple l us) (hb : s.heap.IsTuple b vs) (hu : A.units < cLine)
    (he : ∀ j (h1 : j < us.size) (h2 : j < vs.size), EqAt A.in1 s us[j] vs[j] (e j)) (hr : ∀ j (h1 : j < us.size) (h2 : j < vs.size), Fst e j → RcOp .Lt A.in1 s us[j] vs[j] (r j)) :
    RcOp .Lt A s (.ref l) (.ref b) (lexAt e r (decide (us.size < vs.size)) 0 (min us.size vs.size)) := fun prog w E Q h => by
  obtain ⟨⟨c1, d1, t1, s1⟩, ho, hc, n, hd⟩ := id hl
  obtain ⟨⟨c2, d2, t2, s2⟩, ho2, hc2, n2, hd2⟩ := id hb
  simp only at hc hd hc2 hd2
  subst hc hd hc2 hd2
  exact richCompare_meets_room (op := .Lt) ⟨_, ho, rfl⟩ ⟨_, ho2, rfl⟩ F.slot_tuple_lt F.entry_tuple_lt (F.args_tuple_lt_2 _ _) (tup_lt l b us vs n n2 d1 d2 s1 s2 e r) ⟨ho, ho2, he, hr, ⟨(fun x => nomatch x), h⟩⟩ hu

theorem tup_le (l b : Addr) (us vs : Array Value) (n n2 : Nat) (d1 d2 : Option Addr) (s1 s2 : Array (Option Value)) (e r : Nat → Bool) :
    Meets (Builtin.«tuple.__le__» ⟨[.ref l, .ref b], []⟩) (fun A R s =>
      s.heap.get? l = some { cls := .type "tuple", dict := d1, data := .seq us n, slots := s1 } ∧
      s.heap.get? b = some { cls := .type "tuple", dict := d2, data := .seq vs n2, slots := s2 } ∧
      (∀ j (h1 : j < us.size) (h2 : j < vs.size), EqAt A.in1 s us[j] vs[j] (e j)) ∧
      (∀ j (h1 : j < us.size) (h2 : j < vs.size), Fst e j → RcOp .LtE A.in1 s us[j] vs[j] (r j)) ∧
      R (.ok (.ret (.bool (lexAt e r (decide (us.size ≤ vs.size)) 0 (min us.size vs.size))))) s) :=
  .of_wp fun prog w A R s h => by
    obtain ⟨hp, g, d, tk, os⟩ := s
    obtain ⟨hl, hb, he, hr, h⟩ := h
    have f2 := AutoSeq1.sub_tuple_tuple
    have hZ : (us.toList.zip vs.toList).length = min us.size vs.size := by simp
    wp_walk using wpAny_loadPart' hl, wpAny_loadPart' hb, wpAny_forIn_list _ (fun rest b s' => b.1 = none ∧ s' = ⟨hp, g, d, tk, os⟩ ∧ ∃ i, (∀ k, k < i → e k = true) ∧ rest = (us.toList.zip vs.toList).drop i ∧
      R (.ok (.ret (.bool (lexAt e r (decide (us.size ≤ vs.size)) i (min us.size vs.size - i))))) ⟨hp, g, d, tk, os⟩) _
    case turn =>
      rintro ⟨y, x⟩ rest b s' ⟨hb', rfl, i, hpre, hz, hR⟩
      have hlt : i < (us.toList.zip vs.toList).length := Nat.lt_of_not_le fun hge => by rw [List.drop_of_length_le hge] at hz; cases hz
      have hm : i < min us.size vs.size := by rw [← hZ]; exact hlt
      have h1 : i < us.size := by omega
      have h2 : i < vs.size := by omega
      rw [List.drop_eq_getElem_cons hlt] at hz
      injection hz with hyx hrest
      obtain rfl : y = us[i] := by simpa using congrArg Prod.fst hyx
      obtain rfl : x = vs[i] := by simpa using congrArg Prod.snd hyx
      rw [show min us.size vs.size - i = (min us.size vs.size - (i + 1)) + 1 by omega, lexAt_succ] at hR
      refine wpAny_bind (he i h1 h2 prog w _ _ ?_)
      cases hei : e i with
      | true =>
        rw [hei, if_pos rfl] at hR
        wp_walk
        exact ⟨rfl, rfl, i + 1, fun k hk => (Nat.lt_succ_iff_lt_or_eq.mp hk).elim (hpre k) fun z => z ▸ hei, hrest, hR⟩
      | false =>
        rw [hei, if_neg Bool.false_ne_true] at hR
        have hri := hr i h1 h2 ⟨hpre, hei⟩ prog w
        wp_walk using hri
        exact ⟨_, rfl, by simpa using hR⟩
    case fin =>
      rintro ⟨b1, b2⟩ s' ⟨hb', rfl, i, _, hz, hR⟩
      simp only at hb'
      subst hb'
      have hge : min us.size vs.size ≤ i := by
        rw [← hZ]
        exact Nat.le_of_not_lt fun hlt => by rw [List.drop_eq_getElem_cons hlt] at hz; cases hz
      rw [Nat.sub_eq_zero_of_le hge, lexAt_zero] at hR
      wp_walk
      exact ⟨_, rfl, by simpa [Builtin.Tuple.tupleCompareSizes] using hR⟩
    case h => exact ⟨rfl, rfl, 0, fun k hk => absurd hk (Nat.not_lt_zero k), rfl, by simpa using h⟩
theorem tups_le {A : Around} {s : Shared} {l b : Addr} {us vs : Array Value} {e r : Nat → Bool} (hl : s.heap.IsTuple l us) (hb : s.heap.IsTuple b vs) (hu : A.units < cLine)
    (he : ∀ j (h1 : j < us.size) (h2 : j < vs.size), EqAt A.in1 s us[j] vs[j] (e j)) (hr : ∀ j (h1 : j < us.size) (h2 : j < vs.size), Fst e j → RcOp .LtE A.in1 s us[j] vs[j] (r j)) :
    RcOp .LtE A s (.ref l) (.ref b) (lexAt e r (decide (us.size ≤ vs.size)) 0 (min us.size vs.size)) := fun prog w E Q h => by
  obtain ⟨⟨c1, d1, t1, s1⟩, ho, hc, n, hd⟩ := id hl
  obtain ⟨⟨c2, d2, t2, s2⟩, ho2, hc2, n2, hd2⟩ := id hb
  simp only at hc hd hc2 hd2
  subst hc hd hc2 hd2
  exact richCompare_meets_room (op := .LtE) ⟨_, ho, rfl⟩ ⟨_, ho2, rfl⟩ F.slot_tuple_le F.entry_tuple_le (F.args_tuple_le_2 _ _) (tup_le l b us vs n n2 d1 d2 s1 s2 e r) ⟨ho, ho2, he, hr, ⟨(fun x => nomatch x), h⟩⟩ hu

theorem tup_gt (l b : Addr) (us vs : Array Value) (n n2 : Nat) (d1 d2 : Option Addr) (s1 s2 : Array (Option Value)) (e r : Nat → Bool) :
    Meets (Builtin.«tuple.__gt__» ⟨[.ref l, .ref b], []⟩) (fun A R s =>
      s.heap.get? l = some { cls := .type "tuple", dict := d1, data := .seq us n, slots := s1 } ∧
      s.heap.get? b = some { cls := .type "tuple", dict := d2, data := .seq vs n2, slots := s2 } ∧
      (∀ j (h1 : j < us.size) (h2 : j < vs.size), EqAt A.in1 s us[j] vs[j] (e j)) ∧
      (∀ j (h1 : j < us.size) (h2 : j < vs.size), Fst e j → RcOp .Gt A.in1 s us[j] vs[j] (r j)) ∧
      R (.ok (.ret (.bool (lexAt e r (decide (us.size > vs.size)) 0 (min us.size vs.size))))) s) :=
  .of_wp fun prog w A R s h => by
    obtain ⟨hp, g, d, tk, os⟩ := s
    obtain ⟨hl, hb, he, hr, h⟩ := h
    have f2 := AutoSeq1.sub_tuple_tuple
    have hZ : (us.toList.zip vs.toList).length = min us.size vs.size := by simp
    wp_walk using wpAny_loadPart' hl, wpAny_loadPart' hb, wpAny_forIn_list _ (fun rest b s' => b.1 = none ∧ s' = ⟨hp, g, d, tk, os⟩ ∧ ∃ i, (∀ k, k < i → e k = true) ∧ rest = (us.toList.zip vs.toList).drop i ∧
      R (.ok (.ret (.bool (lexAt e r (decide (us.size > vs.size)) i (min us.size vs.size - i))))) ⟨hp, g, d, tk, os⟩) _
    case turn =>
      rintro ⟨y, x⟩ rest b s' ⟨hb', rfl, i, hpre, hz, hR⟩
      have hlt : i < (us.toList.zip vs.toList).length := Nat.lt_of_not_le fun hge => by rw [List.drop_of_length_le hge] at hz; cases hz
      have hm : i < min us.size vs.size := by rw [← hZ]; exact hlt
      have h1 : i < us.size := by omega
      have h2 : i < vs.size := by omega
      rw [List.drop_eq_getElem_cons hlt] at hz
      injection hz with hyx hrest
      obtain rfl : y = us[i] := by simpa using congrArg Prod.fst hyx
      obtain rfl : x = vs[i] := by simpa using congrArg Prod.snd hyx
      rw [show min us.size vs.size - i = (min us.size vs.size - (i + 1)) + 1 by omega, lexAt_succ] at hR
      refine wpAny_bind (he i h1 h2 prog w _ _ ?_)
      cases hei : e i with
      | true =>
        rw [hei, if_pos rfl] at hR
        wp_walk
        exact ⟨rfl, rfl, i + 1, fun k hk => (Nat.lt_succ_iff_lt_or_eq.mp hk).elim (hpre k) fun z => z ▸ hei, hrest, hR⟩
      | false =>
        rw [hei, if_neg Bool.false_ne_true] at hR
        have hri := hr i h1 h2 ⟨hpre, hei⟩ prog w
        wp_walk using hri
        exact ⟨_, rfl, by simpa using hR⟩
    case fin =>
      rintro ⟨b1, b2⟩ s' ⟨hb', rfl, i, _, hz, hR⟩
      simp only at hb'
      subst hb'
      have hge : min us.size vs.size ≤ i := by
        rw [← hZ]
        exact Nat.le_of_not_lt fun hlt => by rw [List.drop_eq_getElem_cons hlt] at hz; cases hz
      rw [Nat.sub_eq_zero_of_le hge, lexAt_zero] at hR
      wp_walk
      exact ⟨_, rfl, by simpa [Builtin.Tuple.tupleCompareSizes] using hR⟩
    case h => exact ⟨rfl, rfl, 0, fun k hk => absurd hk (Nat.not_lt_zero k), rfl, by simpa using h⟩
theorem tups_gt {A : Around} {s : Shared} {l b : Addr} {us vs : Array Value} {e r : Nat → Bool} (hl : s.heap.IsTuple l us) (hb : s.heap.IsTuple b vs) (hu : A.units < cLine)
    (he : ∀ j (h1 : j < us.size) (h2 : j < vs.size), EqAt A.in1 s us[j] vs[j] (e j)) (hr : ∀ j (h1 : j < us.size) (h2 : j < vs.size), Fst e j → RcOp .Gt A.in1 s us[j] vs[j] (r j)) :
    RcOp .Gt A s (.ref l) (.ref b) (lexAt e r (decide (us.size > vs.size)) 0 (min us.size vs.size)) := fun prog w E Q h => by
  obtain ⟨⟨c1, d1, t1, s1⟩, ho, hc, n, hd⟩ := id hl
  obtain ⟨⟨c2, d2, t2, s2⟩, ho2, hc2, n2, hd2⟩ := id hb
  simp only at hc hd hc2 hd2
  subst hc hd hc2 hd2
  exact richCompare_meets_room (op := .Gt) ⟨_, ho, rfl⟩ ⟨_, ho2, rfl⟩ F.slot_tuple_gt F.entry_tuple_gt (F.args_tuple_gt_2 _ _) (tup_gt l b us vs n n2 d1 d2 s1 s2 e r) ⟨ho, ho2, he, hr, ⟨(fun x => nomatch x), h⟩⟩ hu

theorem tup_ge (l b : Addr) (us vs : Array Value) (n n2 : Nat) (d1 d2 : Option Addr) (s1 s2 : Array (Option Value)) (e r : Nat → Bool) :
    Meets (Builtin.«tuple.__ge__» ⟨[.ref l, .ref b], []⟩) (fun A R s =>
      s.heap.get? l = some { cls := .type "tuple", dict := d1, data := .seq us n, slots := s1 } ∧
      s.heap.get? b = some { cls := .type "tuple", dict := d2, data := .seq vs n2, slots := s2 } ∧
      (∀ j (h1 : j < us.size) (h2 : j < vs.size), EqAt A.in1 s us[j] vs[j] (e j)) ∧
      (∀ j (h1 : j < us.size) (h2 : j < vs.size), Fst e j → RcOp .GtE A.in1 s us[j] vs[j] (r j)) ∧
      R (.ok (.ret (.bool (lexAt e r (decide (us.size ≥ vs.size)) 0 (min us.size vs.size))))) s) :=
  .of_wp fun prog w A R s h => by
    obtain ⟨hp, g, d, tk, os⟩ := s
    obtain ⟨hl, hb, he, hr, h⟩ := h
    have f2 := AutoSeq1.sub_tuple_tuple
    have hZ : (us.toList.zip vs.toList).length = min us.size vs.size := by simp
    wp_walk using wpAny_loadPart' hl, wpAny_loadPart' hb, wpAny_forIn_list _ (fun rest b s' => b.1 = none ∧ s' = ⟨hp, g, d, tk, os⟩ ∧ ∃ i, (∀ k, k < i → e k = true) ∧ rest = (us.toList.zip vs.toList).drop i ∧
      R (.ok (.ret (.bool (lexAt e r (decide (us.size ≥ vs.size)) i (min us.size vs.size - i))))) ⟨hp, g, d, tk, os⟩) _
    case turn =>
      rintro ⟨y, x⟩ rest b s' ⟨hb', rfl, i, hpre, hz, hR⟩
      have hlt : i < (us.toList.zip vs.toList).length := Nat.lt_of_not_le fun hge => by rw [List.drop_of_length_le hge] at hz; cases hz
      have hm : i < min us.size vs.size := by rw [← hZ]; exact hlt
      have h1 : i < us.size := by omega
      have h2 : i < vs.size := by omega
      rw [List.drop_eq_getElem_cons hlt] at hz
      injection hz with hyx hrest
      obtain rfl : y = us[i] := by simpa using congrArg Prod.fst hyx
      obtain rfl : x = vs[i] := by simpa using congrArg Prod.snd hyx
      rw [show min us.size vs.size - i = (min us.size vs.size - (i + 1)) + 1 by omega, lexAt_succ] at hR
      refine wpAny_bind (he i h1 h2 prog w _ _ ?_)
      cases hei : e i with
      | true =>
        rw [hei, if_pos rfl] at hR
        wp_walk
        exact ⟨rfl, rfl, i + 1, fun k hk => (Nat.lt_succ_iff_lt_or_eq.mp hk).elim (hpre k) fun z => z ▸ hei, hrest, hR⟩
      | false =>
        rw [hei, if_neg Bool.false_ne_true] at hR
        have hri := hr i h1 h2 ⟨hpre, hei⟩ prog w
        wp_walk using hri
        exact ⟨_, rfl, by simpa using hR⟩
    case fin =>
      rintro ⟨b1, b2⟩ s' ⟨hb', rfl, i, _, hz, hR⟩
      simp only at hb'
      subst hb'
      have hge : min us.size vs.size ≤ i := by
        rw [← hZ]
        exact Nat.le_of_not_lt fun hlt => by rw [List.drop_eq_getElem_cons hlt] at hz; cases hz
      rw [Nat.sub_eq_zero_of_le hge, lexAt_zero] at hR
      wp_walk
      exact ⟨_, rfl, by simpa [Builtin.Tuple.tupleCompareSizes] using hR⟩
    case h => exact ⟨rfl, rfl, 0, fun k hk => absurd hk (Nat.not_lt_zero k), rfl, by simpa using h⟩
theorem tups_ge {A : Around} {s : Shared} {l b : Addr} {us vs : Array Value} {e r : Nat → Bool} (hl : s.heap.IsTuple l us) (hb : s.heap.IsTuple b vs) (hu : A.units < cLine)
    (he : ∀ j (h1 : j < us.size) (h2 : j < vs.size), EqAt A.in1 s us[j] vs[j] (e j)) (hr : ∀ j (h1 : j < us.size) (h2 : j < vs.size), Fst e j → RcOp .GtE A.in1 s us[j] vs[j] (r j)) :
    RcOp .GtE A s (.ref l) (.ref b) (lexAt e r (decide (us.size ≥ vs.size)) 0 (min us.size vs.size)) := fun prog w E Q h => by
  obtain ⟨⟨c1, d1, t1, s1⟩, ho, hc, n, hd⟩ := id hl
  obtain ⟨⟨c2, d2, t2, s2⟩, ho2, hc2, n2, hd2⟩ := id hb
  simp only at hc hd hc2 hd2
  subst hc hd hc2 hd2
  exact richCompare_meets_room (op := .GtE) ⟨_, ho, rfl⟩ ⟨_, ho2, rfl⟩ F.slot_tuple_ge F.entry_tuple_ge (F.args_tuple_ge_2 _ _) (tup_ge l b us vs n n2 d1 d2 s1 s2 e r) ⟨ho, ho2, he, hr, ⟨(fun x => nomatch x), h⟩⟩ hu

end PY

set_option Elab.async false
set_option linter.all false
set_option maxRecDepth 100000
/-! PyB -/
namespace PY
open PySem PySem.Spec PyProof.Rows L2

/-- where classes and defs stand -/
structure Nm where
  cad : Str → Option Addr
  fad : Str → Option Addr
/-- what is frozen, where the cells stand -/
structure Wd where
  z : Addr → Option HO
  f : Nat → Option Addr
  /-- what nobody else sees now -/
  h : Addr → Option HO
structure Wd.le (W W' : Wd) : Prop where
  z : ∀ a o, W.z a = some o → W'.z a = some o
  f : ∀ n a, W.f n = some a → W'.f n = some a
  h : W'.h = W.h
theorem Wd.le_refl (W : Wd) : W.le W := ⟨fun _ _ h => h, fun _ _ h => h, rfl⟩
theorem Wd.le.trans {A B C : Wd} (h : A.le B) (h' : B.le C) : A.le C := ⟨fun a o e => h'.1 a o (h.1 a o e), fun n a e => h'.2 n a (h.2 n a e), h'.3.trans h.3⟩

/-- a tuple, a list of the written part -/
def KTup (K : PySem.W.Frag) (a : Addr) (xs : List V) : Prop :=
  ∃ (o : Obj) (its : Array Value) (n : Nat), K.lookup a = some o ∧ o.cls = .type "tuple" ∧ o.data = .seq its n ∧ its.size ≤ sizeLine ∧ Vals xs its.toList
def TupAt (K : PySem.W.Frag) (W : Wd) (a : Addr) (vs : List V) : Prop := W.z a = some (.tup vs) ∨ KTup K a vs
def LstAt (K : PySem.W.Frag) (W : Wd) (a : Addr) (vs : List V) : Prop := W.z a = some (.lst vs) ∨ ∃ o, W.z a = some (.frz o (.lst vs))
/-- an error's object -/
def ExcAt (a C d : Addr) : Heap → Prop := fun h => ∃ oe, h.get? a = some oe ∧ oe.cls = .ref C ∧ oe.dict = some d ∧ ∃ vs, oe.data = .fields vs

mutual
def Rep (K : PySem.W.Frag) (γ : Nm) (W : Wd) : D → V → Prop
  | .non, v => v = .non
  | .bl b, v => v = .bl b
  | .int i, v => v = .int i
  | .str x, v => v = .str x
  | .tup xs, v => ∃ a vs, v = .ref a ∧ TupAt K W a vs ∧ Reps K γ W xs vs
  | .lst xs, v => ∃ a vs, v = .ref a ∧ LstAt K W a vs ∧ Reps K γ W xs vs
  | .dic _ _, _ => False
  | .st _, _ => False
  | .exc c d, v => ∃ a da C v', v = .ref a ∧ γ.cad c = some C ∧ W.z a = some (.ext (ExcAt a C da)) ∧ W.z da = some (.xd [(("value" : Str), v')]) ∧ Rep K γ W d v'
  | .fn x, v => ∃ a, v = .ref a ∧ γ.fad x = some a
def Reps (K : PySem.W.Frag) (γ : Nm) (W : Wd) : List D → List V → Prop
  | [], vs => vs = []
  | d :: ds, vs => ∃ v r, vs = v :: r ∧ Rep K γ W d v ∧ Reps K γ W ds r
end
section
variable {K : PySem.W.Frag} {γ : Nm} {W W' : Wd}
theorem TupAt.mono {a vs} (h : TupAt K W a vs) (l : W.le W') : TupAt K W' a vs := h.imp (l.1 _ _) id
theorem LstAt.mono {a vs} (h : LstAt K W a vs) (l : W.le W') : LstAt K W' a vs := h.imp (l.1 _ _) fun ⟨o, e⟩ => ⟨o, l.1 _ _ e⟩
mutual
theorem Rep.mono (l : W.le W') : ∀ {d : D} {v : V}, Rep K γ W d v → Rep K γ W' d v
  | .non, _, h => by simpa [Rep] using h
  | .bl _, _, h => by simpa [Rep] using h
  | .int _, _, h => by simpa [Rep] using h
  | .str _, _, h => by simpa [Rep] using h
  | .tup xs, v, h => by
    simp only [Rep] at h ⊢
    obtain ⟨a, vs, e, t, r⟩ := h
    exact ⟨a, vs, e, t.mono l, Reps.mono l r⟩
  | .lst xs, v, h => by
    simp only [Rep] at h ⊢
    obtain ⟨a, vs, e, t, r⟩ := h
    exact ⟨a, vs, e, t.mono l, Reps.mono l r⟩
  | .dic _ _, _, h => by simp [Rep] at h
  | .st _, _, h => by simp [Rep] at h
  | .exc c d, v, h => by
    simp only [Rep] at h ⊢
    obtain ⟨a, da, C, v', e, c1, c2, c3, r⟩ := h
    exact ⟨a, da, C, v', e, c1, l.1 _ _ c2, l.1 _ _ c3, Rep.mono l r⟩
  | .fn x, v, h => by simpa [Rep] using h
theorem Reps.mono (l : W.le W') : ∀ {ds : List D} {vs : List V}, Reps K γ W ds vs → Reps K γ W' ds vs
  | [], _, h => by simpa [Reps] using h
  | d :: ds, vs, h => by
    simp only [Reps] at h ⊢
    obtain ⟨v, r, e, h1, h2⟩ := h
    exact ⟨v, r, e, Rep.mono l h1, Reps.mono l h2⟩
end
theorem Reps.length : ∀ {ds : List D} {vs : List V}, Reps K γ W ds vs → vs.length = ds.length
  | [], _, h => by simp only [Reps] at h; rw [h]; rfl
  | d :: ds, vs, h => by
    simp only [Reps] at h
    obtain ⟨v, r, e, h1, h2⟩ := h
    rw [e, List.length_cons, List.length_cons, Reps.length h2]
theorem Reps.get : ∀ {ds : List D} {vs : List V} {i : Nat} {d : D}, Reps K γ W ds vs → ds[i]? = some d → ∃ v, vs[i]? = some v ∧ Rep K γ W d v
  | [], _, _, _, _, e => by simp at e
  | d :: ds, vs, 0, x, h, e => by
    simp only [Reps] at h
    obtain ⟨v, r, e1, h1, h2⟩ := h
    simp at e; subst e; exact ⟨v, by rw [e1]; rfl, h1⟩
  | d :: ds, vs, i + 1, x, h, e => by
    simp only [Reps] at h
    obtain ⟨v, r, e1, h1, h2⟩ := h
    obtain ⟨u, e2, h3⟩ := Reps.get (i := i) h2 (by simpa using e)
    exact ⟨u, by rw [e1]; simpa using e2, h3⟩
theorem Reps.getV : ∀ {ds : List D} {vs : List V} {i : Nat} {v : V}, Reps K γ W ds vs → vs[i]? = some v → ∃ d, ds[i]? = some d ∧ Rep K γ W d v
  | [], _, _, _, h, e => by simp only [Reps] at h; rw [h] at e; simp at e
  | d :: ds, vs, 0, x, h, e => by
    simp only [Reps] at h
    obtain ⟨v, r, e1, h1, h2⟩ := h
    rw [e1] at e
    simp at e; subst e; exact ⟨d, rfl, h1⟩
  | d :: ds, vs, i + 1, x, h, e => by
    simp only [Reps] at h
    obtain ⟨v, r, e1, h1, h2⟩ := h
    rw [e1] at e
    obtain ⟨u, e2, h3⟩ := Reps.getV (i := i) h2 (by simpa using e)
    exact ⟨u, by simpa using e2, h3⟩
theorem reps_nil : Reps K γ W [] [] := by simp [Reps]
theorem reps_cons {d ds v vs} (h : Rep K γ W d v) (h' : Reps K γ W ds vs) : Reps K γ W (d :: ds) (v :: vs) := by
  simp only [Reps]; exact ⟨v, vs, rfl, h, h'⟩
theorem Reps.append : ∀ {xs ys : List D} {vs ws : List V}, Reps K γ W xs vs → Reps K γ W ys ws → Reps K γ W (xs ++ ys) (vs ++ ws)
  | [], _, _, _, h, h' => by simp only [Reps] at h; rw [h]; exact h'
  | d :: ds, ys, vs, ws, h, h' => by
    simp only [Reps] at h
    obtain ⟨v, r, e1, h1, h2⟩ := h
    rw [e1]; exact reps_cons h1 (Reps.append h2 h')
theorem Reps.take : ∀ {xs : List D} {vs : List V} (n : Nat), Reps K γ W xs vs → Reps K γ W (xs.take n) (vs.take n)
  | [], _, n, h => by simp only [Reps] at h; rw [h]; simp [Reps]
  | d :: ds, vs, 0, h => by simp [Reps]
  | d :: ds, vs, n + 1, h => by
    simp only [Reps] at h
    obtain ⟨v, r, e1, h1, h2⟩ := h
    rw [e1]; exact reps_cons h1 (Reps.take n h2)
theorem Reps.drop : ∀ {xs : List D} {vs : List V} (n : Nat), Reps K γ W xs vs → Reps K γ W (xs.drop n) (vs.drop n)
  | [], _, n, h => by simp only [Reps] at h; rw [h]; simp [Reps]
  | d :: ds, vs, 0, h => by simpa using h
  | d :: ds, vs, n + 1, h => by
    simp only [Reps] at h
    obtain ⟨v, r, e1, h1, h2⟩ := h
    rw [e1]; exact Reps.drop n h2
theorem Reps.set {d : D} {v : V} (r : Rep K γ W d v) : ∀ {xs : List D} {vs : List V} (i : Nat), Reps K γ W xs vs → Reps K γ W (xs.set i d) (vs.set i v)
  | [], _, n, h => by simp only [Reps] at h; rw [h]; simp [Reps]
  | x :: xs, vs, 0, h => by
    simp only [Reps] at h
    obtain ⟨v, r', e1, h1, h2⟩ := h
    rw [e1]; exact reps_cons r h2
  | x :: xs, vs, n + 1, h => by
    simp only [Reps] at h
    obtain ⟨v, r', e1, h1, h2⟩ := h
    rw [e1]; exact reps_cons h1 (Reps.set r n h2)
theorem Reps.rep : ∀ {xs : List D} {vs : List V} (n : Nat), Reps K γ W xs vs → Reps K γ W ((List.replicate n xs).flatten) ((List.replicate n vs).flatten)
  | _, _, 0, _ => by simp [Reps]
  | xs, vs, n + 1, h => by
    rw [List.replicate_succ, List.replicate_succ, List.flatten_cons, List.flatten_cons]
    exact h.append (Reps.rep n h)
theorem reps_of {xs : List D} {vs : List V} (hl : vs.length = xs.length) (h : ∀ (i : Nat) (d : D) (v : V), xs[i]? = some d → vs[i]? = some v → Rep K γ W d v) : Reps K γ W xs vs := by
  induction xs generalizing vs with
  | nil => simp only [List.length_nil] at hl; rw [List.eq_nil_of_length_eq_zero hl]; exact reps_nil
  | cons x xs ih =>
    cases vs with
    | nil => simp at hl
    | cons v vs => exact reps_cons (h 0 x v rfl rfl) (ih (by simpa using hl) fun i d u e1 e2 => h (i + 1) d u (by simpa using e1) (by simpa using e2))
theorem Reps.reverse {xs : List D} {vs : List V} (h : Reps K γ W xs vs) : Reps K γ W xs.reverse vs.reverse := by
  induction xs generalizing vs with
  | nil => simp only [Reps] at h; rw [h]; exact reps_nil
  | cons x xs ih =>
    simp only [Reps] at h
    obtain ⟨v, r', e1, h1, h2⟩ := h
    rw [e1, List.reverse_cons, List.reverse_cons]
    exact (ih h2).append (reps_cons h1 reps_nil)
end

def RepT (K : PySem.W.Frag) (γ : Nm) (W : Wd) : T → V → Prop
  | .val d, v => Rep K γ W d v
  | .loc n, v => ∃ a, v = .ref a ∧ W.f n = some a
theorem RepT.mono {K γ} {W W' : Wd} (l : W.le W') {t : T} {v : V} (h : RepT K γ W t v) : RepT K γ W' t v := by
  cases t with
  | val d => exact Rep.mono l h
  | loc n => obtain ⟨a, e, q⟩ := h; exact ⟨a, e, l.2 _ _ q⟩
/-- a new object -/
def New (K : PySem.W.Frag) (γ : Nm) (W : Wd) (H : Hp) : D → V → Prop
  | .lst xs, v => ∃ a vs, v = .ref a ∧ H a = some (.lst vs) ∧ Reps K γ W xs vs ∧ W.z a = none ∧ (∀ n, W.f n ≠ some a) ∧ W.h a = none
  | _, _ => False
def RepR (K : PySem.W.Frag) (γ : Nm) (W : Wd) (H : Hp) (t : T) (fr : Bool) (v : V) : Prop :=
  match fr with
  | false => RepT K γ W t v
  | true => match t with
    | .val d => New K γ W H d v
    | .loc _ => False
/-- a cell's object -/
def ObAt (K : PySem.W.Frag) (γ : Nm) (W : Wd) (H : Hp) (a : Addr) : Ob → Prop
  | .lst xs => (∃ vs, H a = some (.lst vs) ∧ Reps K γ W xs vs) ∧ W.z a = none
  | .dic _ _ => False
  | .st _ => False
  | .frz d => Rep K γ W d (.ref a) ∧ ∃ o, W.z a = some o
/-- what may be frozen -/
def FrzK : HO → Prop
  | .tup _ => True
  | .lst _ => True
  | .ext _ => True
  | .xd _ => True
  | .frz _ _ => True
  | _ => False
structure WOk (K : PySem.W.Frag) (γ : Nm) (W : Wd) (m : Mu) (H : Hp) : Prop where
  z : ∀ a o, W.z a = some o → H a = some o
  k : ∀ a o, W.z a = some o → FrzK o
  c : ∀ n o, m[n]? = some o → ∃ a, W.f n = some a ∧ ObAt K γ W H a o
  inj : ∀ n n' a, W.f n = some a → W.f n' = some a → n = n'
  len : ∀ n a, W.f n = some a → n < m.length
  hh : ∀ a o, W.h a = some o → H a = some o ∧ W.z a = none ∧ ∀ n, W.f n ≠ some a
structure RhoOk (K : PySem.W.Frag) (γ : Nm) (W : Wd) (r : Rho) (σ : L2.St) : Prop where
  len : r.length = σ.length
  get : ∀ (i : Nat) (t : T), r[i]? = some (some t) → ∃ v, σ[i]? = some (some v) ∧ RepT K γ W t v
section
variable {K : PySem.W.Frag} {γ : Nm} {W W' : Wd} {m : Mu} {H H' : Hp} {r : Rho} {σ : L2.St}
theorem RhoOk.mono (h : RhoOk K γ W r σ) (l : W.le W') : RhoOk K γ W' r σ := ⟨h.len, fun i t e => let ⟨v, e1, e2⟩ := h.get i t e; ⟨v, e1, e2.mono l⟩⟩
theorem RhoOk.set (h : RhoOk K γ W r σ) {i : Nat} {t : T} {v : V} (q : RepT K γ W t v) : RhoOk K γ W (r.set i (some t)) (σ.set i (some v)) := by
  refine ⟨by simp [h.len], fun j u e => ?_⟩
  by_cases hj : i = j
  · subst hj
    by_cases hl : i < r.length
    · rw [List.getElem?_set_self hl] at e
      cases e
      exact ⟨v, by rw [List.getElem?_set_self (by rw [← h.len]; exact hl)], q⟩
    · rw [List.getElem?_eq_none (by simpa using hl)] at e; cases e
  · rw [List.getElem?_set_ne hj] at e
    obtain ⟨w, e1, e2⟩ := h.get j u e
    exact ⟨w, by rw [List.getElem?_set_ne hj]; exact e1, e2⟩
theorem RhoOk.unset (h : RhoOk K γ W r σ) {i : Nat} : RhoOk K γ W (r.set i none) (σ.set i none) := by
  refine ⟨by simp [h.len], fun j u e => ?_⟩
  by_cases hj : i = j
  · subst hj
    by_cases hl : i < r.length
    · rw [List.getElem?_set_self hl] at e; cases e
    · rw [List.getElem?_eq_none (by simpa using hl)] at e; cases e
  · rw [List.getElem?_set_ne hj] at e
    obtain ⟨w, e1, e2⟩ := h.get j u e
    exact ⟨w, by rw [List.getElem?_set_ne hj]; exact e1, e2⟩
theorem RhoOk.wipe (h : RhoOk K γ W r σ) : ∀ vs : List Nat, RhoOk K γ W (wipeR r vs) (wipe σ vs)
  | [] => h
  | v :: vs => (RhoOk.wipe h vs).unset
theorem ObAt.mono {a : Addr} {o : Ob} (h : ObAt K γ W H a o) (l : W.le W') (hz : ∀ xs, o = .lst xs → W'.z a = none) (hH : ∀ xs vs, o = .lst xs → H a = some (.lst vs) → H' a = some (.lst vs)) : ObAt K γ W' H' a o := by
  cases o with
  | lst xs =>
    obtain ⟨⟨vs, e, q⟩, n⟩ := h
    exact ⟨⟨vs, hH xs vs rfl e, Reps.mono l q⟩, hz xs rfl⟩
  | dic _ _ => exact h
  | st _ => exact h
  | frz d => exact ⟨Rep.mono l h.1, let ⟨o, e⟩ := h.2; ⟨o, l.1 _ _ e⟩⟩

/-- the heap grew, or changed where nothing is told -/
theorem WOk.heap (h : WOk K γ W m H) (hz : ∀ a o, W.z a = some o → H' a = some o) (h2 : ∀ a o, W.h a = some o → H' a = some o) (hc : ∀ n a xs, W.f n = some a → m[n]? = some (.lst xs) → ∀ vs, H a = some (.lst vs) → H' a = some (.lst vs)) : WOk K γ W m H' := by
  refine ⟨hz, h.k, fun n o e => ?_, h.inj, h.len, fun a o e => ⟨h2 a o e, (h.hh a o e).2⟩⟩
  obtain ⟨a, e1, q⟩ := h.c n o e
  exact ⟨a, e1, q.mono (Wd.le_refl W) (fun xs e2 => by subst e2; exact q.2) fun xs vs e2 e3 => hc n a xs e1 (e2 ▸ e) vs e3⟩
/-- a new address -/
theorem WOk.new (h : WOk K γ W m H) {p : Addr} {o : HO} (hp : H p = none) : WOk K γ W m (upd H p o) :=
  h.heap (fun a o' e => by rw [upd_ne (ne_of_none (h.z a o' e) hp)]; exact h.z a o' e) (fun a o' e => by rw [upd_ne (ne_of_none (h.hh a o' e).1 hp)]; exact (h.hh a o' e).1) fun n a xs _ _ vs e => by rw [upd_ne (ne_of_none e hp)]; exact e
theorem WOk.notZ (h : WOk K γ W m H) {p : Addr} (hp : H p = none) : W.z p = none := by
  cases e : W.z p with
  | none => rfl
  | some o => have := h.z p o e; rw [hp] at this; cases this
theorem WOk.notF (h : WOk K γ W m H) {p : Addr} (hp : H p = none) : ∀ n, W.f n ≠ some p := fun n e => by
  have hl := h.len n p e
  obtain ⟨a, e1, q⟩ := h.c n m[n] (by simp [hl])
  rw [e] at e1; cases e1
  cases ho : m[n] with
  | lst xs => rw [ho] at q; obtain ⟨⟨vs, e2, _⟩, _⟩ := q; rw [hp] at e2; cases e2
  | dic _ _ => rw [ho] at q; exact q
  | st _ => rw [ho] at q; exact q
  | frz d => rw [ho] at q; obtain ⟨_, o, e2⟩ := q; rw [h.z p o e2] at hp; cases hp
theorem WOk.notH (h : WOk K γ W m H) {p : Addr} (hp : H p = none) : W.h p = none := by
  cases e : W.h p with
  | none => rfl
  | some o => have := (h.hh p o e).1; rw [hp] at this; cases this
/-- one more frozen thing -/
def Wd.frz (W : Wd) (p : Addr) (o : HO) : Wd := ⟨fun a => if a = p then some o else W.z a, W.f, W.h⟩
theorem Wd.le_frz {p : Addr} {o : HO} (h : W.z p = none ∨ W.z p = some o) : W.le (W.frz p o) := ⟨fun a o' e => by
    by_cases ha : a = p
    · subst ha
      rcases h with h | h
      · rw [h] at e; cases e
      · rw [h] at e; cases e; simp [Wd.frz]
    · simp [Wd.frz, ha, e], fun _ _ h => h, rfl⟩
theorem Wd.frz_at {p : Addr} {o : HO} : (W.frz p o).z p = some o := by simp [Wd.frz]
theorem WOk.frz (h : WOk K γ W m H) {p : Addr} {o : HO} (hz : W.z p = none) (hH : H p = some o) (hk : FrzK o) (hf : ∀ n xs, m[n]? = some (.lst xs) → W.f n ≠ some p) (hn : W.h p = none) : WOk K γ (W.frz p o) m H := by
  refine ⟨fun a o' e => ?_, fun a o' e => ?_, fun n o' e => ?_, h.inj, h.len, fun a o' e => ?_⟩
  · by_cases ha : a = p
    · subst ha; simp [Wd.frz] at e; subst e; exact hH
    · simp [Wd.frz, ha] at e; exact h.z a o' e
  · by_cases ha : a = p
    · subst ha; simp [Wd.frz] at e; subst e; exact hk
    · simp [Wd.frz, ha] at e; exact h.k a o' e
  · obtain ⟨a, e1, q⟩ := h.c n o' e
    refine ⟨a, e1, q.mono (Wd.le_frz (.inl hz)) (fun xs e2 => ?_) fun xs vs _ e3 => e3⟩
    subst e2
    have ha : a ≠ p := fun z => hf n xs e (z ▸ e1)
    simp [Wd.frz, ha, q.2]
  · have ha : a ≠ p := fun z => by
      have e' : W.h a = some o' := e
      rw [z, hn] at e'; cases e'
    obtain ⟨e1, e2, e3⟩ := h.hh a o' e
    exact ⟨e1, by simp [Wd.frz, ha, e2], e3⟩
/-- a result is kept: it may not change any more -/
theorem freeze (h : WOk K γ W m H) {t : T} {fr : Bool} {v : V} (q : RepR K γ W H t fr v) : ∃ W', W.le W' ∧ W'.f = W.f ∧ WOk K γ W' m H ∧ RepT K γ W' t v := by
  cases fr with
  | false => exact ⟨W, Wd.le_refl W, rfl, h, q⟩
  | true =>
    cases t with
    | loc n => exact q.elim
    | val d =>
      cases d with
      | lst xs =>
        obtain ⟨a, vs, e, e1, r, z, f, hn⟩ := q
        refine ⟨W.frz a (.lst vs), Wd.le_frz (.inl z), rfl, h.frz z e1 trivial (fun n xs _ => f n) hn, ?_⟩
        show Rep K γ _ (.lst xs) v
        simp only [Rep]
        exact ⟨a, vs, e, .inl Wd.frz_at, r.mono (Wd.le_frz (.inl z))⟩
      | _ => exact (show False from q).elim
end

/-- a value as it stands now -/
def RepN (K : PySem.W.Frag) (γ : Nm) (W : Wd) (H : Hp) : D → V → Prop
  | .lst xs, v => ∃ a vs, v = .ref a ∧ Rd H a (.lst vs) ∧ Reps K γ W xs vs
  | d, v => Rep K γ W d v
section
variable {K : PySem.W.Frag} {γ : Nm} {W W' : Wd} {m : Mu} {H H' : Hp} {r : Rho} {σ : L2.St}
theorem WOk.sqT (h : WOk K γ W m H) {a vs} (t : TupAt K W a vs) : SqT K H a vs := t.imp (fun e => .inl (h.z _ _ e)) id
theorem Rep.now (h : WOk K γ W m H) {d : D} {v : V} (q : Rep K γ W d v) : RepN K γ W H d v := by
  cases d with
  | lst xs =>
    simp only [Rep] at q
    obtain ⟨a, vs, e, t, r⟩ := q
    exact ⟨a, vs, e, t.imp (h.z _ _) fun ⟨o, q⟩ => ⟨o, h.z _ _ q⟩, r⟩
  | _ => exact q
/-- a new tuple -/
theorem new_tup (h : WOk K γ W m H) {p : Addr} (hp : H p = none) {xs : List D} {vs : List V} (q : Reps K γ W xs vs) :
    ∃ W', W.le W' ∧ W'.f = W.f ∧ WOk K γ W' m (upd H p (.tup vs)) ∧ Rep K γ W' (.tup xs) (.ref p) := by
  have hz := h.notZ hp
  refine ⟨W.frz p (.tup vs), Wd.le_frz (.inl hz), rfl, (h.new hp).frz hz upd_same trivial (fun n _ _ => h.notF hp n) (h.notH hp), ?_⟩
  simp only [Rep]
  exact ⟨p, vs, rfl, .inl Wd.frz_at, q.mono (Wd.le_frz (.inl hz))⟩
/-- a new list -/
theorem new_lst (h : WOk K γ W m H) {p : Addr} (hp : H p = none) {xs : List D} {vs : List V} (q : Reps K γ W xs vs) :
    WOk K γ W m (upd H p (.lst vs)) ∧ New K γ W (upd H p (.lst vs)) (.lst xs) (.ref p) :=
  ⟨h.new hp, p, vs, rfl, upd_same, q, h.notZ hp, h.notF hp, h.notH hp⟩
/-- reading -/
theorem WOk.rd (h : WOk K γ W m H) {t : T} {v : V} {d : D} (q : RepT K γ W t v) (e : rd m t = some d) : RepN K γ W H d v := by
  cases t with
  | val d' => simp [PY.rd] at e; subst e; exact Rep.now h q
  | loc n =>
    obtain ⟨a, e1, f1⟩ := q
    simp only [PY.rd, Option.map_eq_some_iff] at e
    obtain ⟨o, e2, e3⟩ := e
    obtain ⟨a', f2, q⟩ := h.c n o e2
    rw [f1] at f2; cases f2
    cases o with
    | lst xs =>
      obtain ⟨⟨vs, e4, r⟩, _⟩ := q
      simp [Ob.d] at e3; subst e3
      exact ⟨a, vs, e1, .inl e4, r⟩
    | dic _ _ => exact q.elim
    | st _ => exact q.elim
    | frz d' =>
      simp [Ob.d] at e3; subst e3; subst e1
      exact Rep.now h q.1
end
end PY

set_option Elab.async false
set_option linter.all false
set_option maxRecDepth 100000
/-! PyC -/
namespace PY
open PySem PySem.Spec PyProof.Rows L2
open PySem.SeqAt (EqAt pairEq)
mutual
theorem lay_of : ∀ d : D, d.plain = true → (toPy d).canLay0 = true
  | .non, _ => by simp [toPy, PyData.canLay0]
  | .bl _, _ => by simp [toPy, PyData.canLay0]
  | .int _, _ => by simp [toPy, PyData.canLay0]
  | .str x, h => by
    have h' : x.cps.all (· < 0x110000) = true := by simpa only [D.plain] using h
    simp only [toPy, PyData.canLay0, PyData.strOk]
    exact h'
  | .tup xs, h => by
    simp only [toPy, PyData.canLay0]
    exact lays_of xs (by simpa only [D.plain] using h)
  | .lst xs, h => by
    simp only [toPy, PyData.canLay0]
    exact lays_of xs (by simpa only [D.plain] using h)
  | .dic _ _, h => by simp [D.plain] at h
  | .st _, h => by simp [D.plain] at h
  | .exc _ _, h => by simp [D.plain] at h
  | .fn _, h => by simp [D.plain] at h
theorem lays_of : ∀ ds : List D, plains ds = true → PyData.canLayAll0 (toPys ds) = true
  | [], _ => by simp [toPys, PyData.canLayAll0]
  | x :: xs, h => by
    simp only [plains, Bool.and_eq_true] at h
    simp only [toPys, PyData.canLayAll0, lay_of x h.1, lays_of xs h.2, Bool.and_self]
end
mutual
theorem depth_of : ∀ d : D, (toPy d).depth = d.depth
  | .non => rfl
  | .bl _ => rfl
  | .int _ => rfl
  | .str _ => rfl
  | .tup xs => by simp only [toPy, PyData.depth, D.depth, depths_of xs]
  | .lst xs => by simp only [toPy, PyData.depth, D.depth, depths_of xs]
  | .dic _ _ => rfl
  | .st _ => rfl
  | .exc _ _ => rfl
  | .fn _ => rfl
theorem depths_of : ∀ ds : List D, PyData.depthAll (toPys ds) = depths ds
  | [] => rfl
  | x :: xs => by simp only [toPys, PyData.depthAll, depths, depth_of x, depths_of xs]
end
mutual
theorem eqv_of : ∀ a b : D, a.plain = true → b.plain = true → PyData.eqv (toPy a) (toPy b) = eqD a b
  | .tup xs, b, h, h' => by
    cases b with
    | tup ys => simp only [toPy, PyData.eqv, eqD]; exact eqvs_of xs ys (by simpa only [D.plain] using h) (by simpa only [D.plain] using h')
    | _ => first | simp [D.plain] at h'; done | simp only [toPy, PyData.eqv, eqD]
  | .lst xs, b, h, h' => by
    cases b with
    | lst ys => simp only [toPy, PyData.eqv, eqD]; exact eqvs_of xs ys (by simpa only [D.plain] using h) (by simpa only [D.plain] using h')
    | _ => first | simp [D.plain] at h'; done | simp only [toPy, PyData.eqv, eqD]
  | .non, b, _, h' => by cases b <;> first | simp [D.plain] at h'; done | simp only [toPy, PyData.eqv, eqD]
  | .bl _, b, _, h' => by cases b <;> first | simp [D.plain] at h'; done | simp only [toPy, PyData.eqv, eqD]
  | .int _, b, _, h' => by cases b <;> first | simp [D.plain] at h'; done | simp only [toPy, PyData.eqv, eqD]
  | .str _, b, _, h' => by cases b <;> first | simp [D.plain] at h'; done | simp only [toPy, PyData.eqv, eqD]
  | .dic _ _, _, h, _ => by simp [D.plain] at h
  | .st _, _, h, _ => by simp [D.plain] at h
  | .exc _ _, _, h, _ => by simp [D.plain] at h
  | .fn _, _, h, _ => by simp [D.plain] at h
theorem eqvs_of : ∀ as bs : List D, plains as = true → plains bs = true → PyData.eqvAll (toPys as) (toPys bs) = eqDs as bs
  | [], [], _, _ => rfl
  | [], _ :: _, _, _ => rfl
  | _ :: _, [], _, _ => rfl
  | x :: xs, y :: ys, h, h' => by
    simp only [plains, Bool.and_eq_true] at h h'
    simp only [toPys, PyData.eqvAll, eqDs, eqv_of x y h.1 h'.1, eqvs_of xs ys h.2 h'.2]
end
theorem toPys_getD : ∀ (xs : List D) (j : Nat), (toPys xs).getD j .none = toPy (xs.getD j .non)
  | [], j => by simp [toPys, toPy]
  | x :: xs, 0 => by simp [toPys]
  | x :: xs, j + 1 => by simpa [toPys] using toPys_getD xs j
theorem toPys_length : ∀ xs : List D, (toPys xs).length = xs.length
  | [] => rfl
  | x :: xs => by simp [toPys, toPys_length xs]
theorem plains_getD : ∀ {xs : List D} (j : Nat), plains xs = true → (xs.getD j .non).plain = true
  | [], j, _ => by simp [D.plain]
  | x :: xs, 0, h => by simp only [plains, Bool.and_eq_true] at h; simpa using h.1
  | x :: xs, j + 1, h => by simp only [plains, Bool.and_eq_true] at h; simpa using plains_getD j h.2
theorem depths_getD : ∀ (xs : List D) (j : Nat), (xs.getD j .non).depth ≤ depths xs
  | [], j => by simp [D.depth, depths]
  | x :: xs, 0 => by simp only [List.getD_cons_zero, depths]; omega
  | x :: xs, j + 1 => by
    have := depths_getD xs j
    simp only [List.getD_cons_succ, depths]; omega

/-- what an order's answer is -/
def opB (op : CmpOp) (o : Ordering) : Bool :=
  match op with
  | .Lt => o == .lt
  | .LtE => o != .gt
  | .Gt => o == .gt
  | .GtE => o != .lt
  | _ => false
def ordOp (op : CmpOp) : Bool :=
  match op with
  | .Lt => true
  | .LtE => true
  | .Gt => true
  | .GtE => true
  | _ => false
def opSz (op : CmpOp) (a b : Nat) : Bool :=
  match op with
  | .Lt => decide (a < b)
  | .LtE => decide (a ≤ b)
  | .Gt => decide (a > b)
  | .GtE => decide (a ≥ b)
  | _ => false
open _root_.Ob (RcOp lexAt lexAt_zero lexAt_succ)
theorem lexAt_shift {e r : Nat → Bool} {z : Bool} : ∀ (k i : Nat), lexAt (fun j => e (j + 1)) (fun j => r (j + 1)) z i k = lexAt e r z (i + 1) k
  | 0, _ => rfl
  | k + 1, i => by rw [lexAt_succ, lexAt_succ, lexAt_shift k (i + 1)]
abbrev eAt (xs ys : List D) (j : Nat) : Bool := eqD (xs.getD j .non) (ys.getD j .non)
abbrev rAt (op : CmpOp) (xs ys : List D) (j : Nat) : Bool := opB op ((cmpD (xs.getD j .non) (ys.getD j .non)).getD .eq)
theorem lex_of {op : CmpOp} (hop : ordOp op = true) : ∀ (xs ys : List D) (o : Ordering), cmpDs xs ys = some o → lexAt (eAt xs ys) (rAt op xs ys) (opSz op xs.length ys.length) 0 (min xs.length ys.length) = opB op o
  | [], [], o, h => by
    simp only [cmpDs, Option.some.injEq] at h
    subst h
    cases op <;> first | rfl | cases hop
  | [], y :: ys, o, h => by
    simp only [cmpDs, Option.some.injEq] at h
    subst h
    rw [show min ([] : List D).length (y :: ys).length = 0 by simp, lexAt_zero]
    cases op <;> first | cases hop; done | simp [opSz, opB]
  | x :: xs, [], o, h => by
    simp only [cmpDs, Option.some.injEq] at h
    subst h
    rw [show min (x :: xs).length ([] : List D).length = 0 by simp, lexAt_zero]
    cases op <;> first | cases hop; done | simp [opSz, opB]
  | x :: xs, y :: ys, o, h => by
    simp only [cmpDs] at h
    rw [show min (x :: xs).length (y :: ys).length = min xs.length ys.length + 1 by simp only [List.length_cons]; omega, lexAt_succ]
    have e0 : eAt (x :: xs) (y :: ys) 0 = eqD x y := rfl
    rw [e0]
    by_cases q : eqD x y = true
    · rw [if_pos q] at h ⊢
      have ih := lex_of hop xs ys o h
      have hz : opSz op (x :: xs).length (y :: ys).length = opSz op xs.length ys.length := by
        cases op <;> first | cases hop; done | simp [opSz]
      rw [hz, ← ih, ← lexAt_shift]
      rfl
    · rw [if_neg q] at h ⊢
      show opB op ((cmpD x y).getD .eq) = _
      rw [h]; rfl
theorem fst_some : ∀ (xs ys : List D) (o : Ordering), cmpDs xs ys = some o → ∀ j, j < xs.length → j < ys.length → Fst (eAt xs ys) j → ∃ o', cmpD (xs.getD j .non) (ys.getD j .non) = some o'
  | [], _, _, _, j, h1, _, _ => by simp at h1
  | _ :: _, [], _, _, j, _, h2, _ => by simp at h2
  | x :: xs, y :: ys, o, h, j, h1, h2, hf => by
    simp only [cmpDs] at h
    by_cases q : eqD x y = true
    · rw [if_pos q] at h
      cases j with
      | zero => have : eqD x y = false := hf.2; rw [q] at this; cases this
      | succ j =>
        have := fst_some xs ys o h j (by simpa using h1) (by simpa using h2) ⟨fun i hi => hf.1 (i + 1) (by omega), hf.2⟩
        simpa using this
    · rw [if_neg q] at h
      cases j with
      | zero => exact ⟨o, by simpa using h⟩
      | succ j => have : eqD x y = true := hf.1 0 (by omega); exact absurd this q
theorem str_lt_of {x y : Str} (h : x ≠ y) : (x.cps.toList < y.cps.toList) ↔ ¬ (y.cps.toList < x.cps.toList) := by
  have hne : x.cps.toList ≠ y.cps.toList := fun e => h (by
    cases x; cases y; simpa using e)
  constructor
  · intro a b
    exact absurd (List.lt_trans a b) (List.lt_irrefl _)
  · intro a
    have h1 : x.cps.toList ≤ y.cps.toList := by exact a
    rcases List.le_iff_lt_or_eq.mp h1 with q | q
    · exact q
    · exact absurd q hne
mutual
theorem cmp_at : ∀ (a b : D) (o : Ordering), cmpD a b = some o → a.plain = true → b.plain = true → ∀ (op : CmpOp), ordOp op = true → ∀ (A : Around) (s : Shared) (va vb : Value) (as bs : List Addr),
    Reads s.heap va (toPy a) as → Reads s.heap vb (toPy b) bs → A.units + min a.depth b.depth < cLine → RcOp op A s va vb (opB op o)
  | .int i, b, o, h, _, _, op, hop, A, s, va, vb, as, bs, ra, rb, _ => by
    cases b with
    | int j =>
      simp only [cmpD, Option.some.injEq] at h
      subst h
      simp only [toPy] at ra rb
      cases ra with
      | int _ t =>
        cases rb with
        | int _ u =>
          cases op with
          | Lt => exact fun _ _ _ _ q => lt_int (by rw [show decide (i < j) = opB .Lt (compare i j) by simp only [opB]; rw [Bool.eq_iff_iff]; simp [Int.compare_eq_lt]]; exact q)
          | LtE => exact fun _ _ _ _ q => le_int (by rw [show decide (i ≤ j) = opB .LtE (compare i j) by simp only [opB]; rw [Bool.eq_iff_iff]; simp [Int.compare_eq_gt]]; exact q)
          | Gt => exact fun _ _ _ _ q => gt_int (by rw [show decide (j < i) = opB .Gt (compare i j) by simp only [opB]; rw [Bool.eq_iff_iff]; simp [Int.compare_eq_gt]]; exact q)
          | GtE => exact fun _ _ _ _ q => ge_int (by rw [show decide (j ≤ i) = opB .GtE (compare i j) by simp only [opB]; rw [Bool.eq_iff_iff]; simp [Int.compare_eq_lt]]; exact q)
          | _ => cases hop
    | _ => simp [cmpD] at h
  | .str x, b, o, h, _, _, op, hop, A, s, va, vb, as, bs, ra, rb, _ => by
    cases b with
    | str y =>
      simp only [cmpD, Option.some.injEq] at h
      subst h
      simp only [toPy] at ra rb
      cases ra with
      | str _ t =>
        cases rb with
        | str _ u =>
          have k : ∀ {p : Prop} [Decidable p] {b : Bool}, decide p = b ↔ (p ↔ b = true) := by intro p _ b; rw [Bool.eq_iff_iff]; simp
          cases op with
          | Lt =>
            refine fun _ _ _ _ q => lt_str (by
              rw [show decide (x.cps.toList < y.cps.toList) = opB .Lt (if x = y then Ordering.eq else if x.cps.toList < y.cps.toList then .lt else .gt) by
                rw [k]
                by_cases e : x = y
                · subst e; simp [opB, List.lt_irrefl]
                · simp only [e, if_false]
                  by_cases l : x.cps.toList < y.cps.toList <;> simp [l, opB]]
              exact q)
          | LtE =>
            refine fun _ _ _ _ q => PySem.P.le_str (by
              rw [show (!decide (y.cps.toList < x.cps.toList)) = opB .LtE (if x = y then Ordering.eq else if x.cps.toList < y.cps.toList then .lt else .gt) by
                rw [← decide_not, k]
                by_cases e : x = y
                · subst e; simp [opB, List.lt_irrefl]
                · simp only [e, if_false]
                  rw [← str_lt_of e]
                  by_cases l : x.cps.toList < y.cps.toList <;> simp [l, opB]]
              exact q)
          | Gt =>
            refine fun _ _ _ _ q => PySem.P.gt_str (by
              rw [show decide (y.cps.toList < x.cps.toList) = opB .Gt (if x = y then Ordering.eq else if x.cps.toList < y.cps.toList then .lt else .gt) by
                rw [k]
                by_cases e : x = y
                · subst e; simp [opB, List.lt_irrefl]
                · simp only [e, if_false]
                  rw [str_lt_of (Ne.symm e)]
                  by_cases l : x.cps.toList < y.cps.toList <;> simp [l, opB]]
              exact q)
          | GtE =>
            refine fun _ _ _ _ q => PySem.P.ge_str (by
              rw [show (!decide (x.cps.toList < y.cps.toList)) = opB .GtE (if x = y then Ordering.eq else if x.cps.toList < y.cps.toList then .lt else .gt) by
                rw [← decide_not, k]
                by_cases e : x = y
                · subst e; simp [opB, List.lt_irrefl]
                · simp only [e, if_false]
                  by_cases l : x.cps.toList < y.cps.toList <;> simp [l, opB]]
              exact q)
          | _ => cases hop
    | _ => simp [cmpD] at h
  | .tup xs, b, o, h, ha, hb, op, hop, A, s, va, vb, as, bs, ra, rb, hu => by
    cases b with
    | tup ys =>
      simp only [cmpD] at h
      simp only [toPy] at ra rb
      simp only [D.plain] at ha hb
      simp only [D.depth] at hu
      cases ra with
      | tuple k1 k2 k3 k4 =>
        rename_i l1 o1 us n1
        cases rb with
        | tuple g1 g2 g3 g4 =>
          rename_i l2 o2 vs n2
          have hu0 : A.units < cLine := by omega
          have hu1 : A.in1.units + min (depths xs) (depths ys) < cLine := by show A.units + 1 + _ < _; omega
          have z1 : us.size = xs.length := by
            have := SeqAt.ReadsAll.length _ _ _ k4
            rw [toPys_length] at this; simpa using this
          have z2 : vs.size = ys.length := by
            have := SeqAt.ReadsAll.length _ _ _ g4
            rw [toPys_length] at this; simpa using this
          have he : ∀ j (h1 : j < us.size) (h2 : j < vs.size), EqAt A.in1 s us[j] vs[j] (eAt xs ys j) := fun j h1 h2 => by
            have q := SeqAt.eqAt_readsAll (toPys xs) (toPys ys) A.in1 s us.toList vs.toList _ _ k4 g4 (lays_of xs ha) (lays_of ys hb) (by rw [depths_of, depths_of]; exact hu1) j (by simpa using h1) (by simpa using h2)
            have e : pairEq (toPys xs) (toPys ys) j = eAt xs ys j := by
              show PyData.eqv ((toPys xs).getD j .none) ((toPys ys).getD j .none) = _
              rw [toPys_getD, toPys_getD, eqv_of _ _ (plains_getD j ha) (plains_getD j hb)]
            rw [e] at q
            simpa using q
          have hr : ∀ j (h1 : j < us.size) (h2 : j < vs.size), Fst (eAt xs ys) j → RcOp op A.in1 s us[j] vs[j] (rAt op xs ys j) := fun j h1 h2 hf => by
            obtain ⟨o', ho'⟩ := fst_some xs ys o h j (by omega) (by omega) hf
            have q := cmps_at xs ys ha hb op hop A.in1 s us.toList vs.toList _ _ k4 g4 hu1 j o' (by omega) (by omega) ho'
            have e : rAt op xs ys j = opB op o' := by show opB op ((cmpD _ _).getD .eq) = _; rw [ho']; rfl
            rw [e]
            have q2 := q (by simpa using h1) (by simpa using h2)
            simpa only [Array.getElem_toList] using q2
          have fin : RcOp op A s (.ref l1) (.ref l2) (lexAt (eAt xs ys) (rAt op xs ys) (opSz op us.size vs.size) 0 (min us.size vs.size)) := by
            cases op with
            | Lt => exact tups_lt ⟨_, k1, k2, _, k3⟩ ⟨_, g1, g2, _, g3⟩ hu0 he hr
            | LtE => exact tups_le ⟨_, k1, k2, _, k3⟩ ⟨_, g1, g2, _, g3⟩ hu0 he hr
            | Gt => exact tups_gt ⟨_, k1, k2, _, k3⟩ ⟨_, g1, g2, _, g3⟩ hu0 he hr
            | GtE => exact tups_ge ⟨_, k1, k2, _, k3⟩ ⟨_, g1, g2, _, g3⟩ hu0 he hr
            | _ => cases hop
          rw [z1, z2, lex_of hop xs ys o h] at fin
          exact fin
    | _ => simp [cmpD] at h
  | .non, b, o, h, _, _, _, _, _, _, _, _, _, _, _, _, _ => by cases b <;> simp [cmpD] at h
  | .bl _, b, o, h, _, _, _, _, _, _, _, _, _, _, _, _, _ => by cases b <;> simp [cmpD] at h
  | .lst _, b, o, h, _, _, _, _, _, _, _, _, _, _, _, _, _ => by cases b <;> simp [cmpD] at h
  | .dic _ _, b, o, h, _, _, _, _, _, _, _, _, _, _, _, _, _ => by cases b <;> simp [cmpD] at h
  | .st _, b, o, h, _, _, _, _, _, _, _, _, _, _, _, _, _ => by cases b <;> simp [cmpD] at h
  | .exc _ _, b, o, h, _, _, _, _, _, _, _, _, _, _, _, _, _ => by cases b <;> simp [cmpD] at h
  | .fn _, b, o, h, _, _, _, _, _, _, _, _, _, _, _, _, _ => by cases b <;> simp [cmpD] at h
theorem cmps_at : ∀ (xs ys : List D), plains xs = true → plains ys = true → ∀ (op : CmpOp), ordOp op = true → ∀ (A : Around) (s : Shared) (us vs : List Value) (as bs : List Addr),
    ReadsAll s.heap us (toPys xs) as → ReadsAll s.heap vs (toPys ys) bs → A.units + min (depths xs) (depths ys) < cLine →
    ∀ (j : Nat) (o : Ordering), j < xs.length → j < ys.length → cmpD (xs.getD j .non) (ys.getD j .non) = some o → ∀ (h1 : j < us.length) (h2 : j < vs.length), RcOp op A s us[j] vs[j] (opB op o)
  | [], _, _, _, _, _, _, _, _, _, _, _, _, _, _, j, _, h, _, _, _, _ => by simp at h
  | _ :: _, [], _, _, _, _, _, _, _, _, _, _, _, _, _, j, _, _, h, _, _, _ => by simp at h
  | x :: xs, y :: ys, ha, hb, op, hop, A, s, us, vs, as, bs, ra, rb, hu, j, o, hj1, hj2, hc, h1, h2 => by
    simp only [plains, Bool.and_eq_true] at ha hb
    simp only [toPys] at ra rb
    simp only [depths] at hu
    cases ra with
    | cons r rs =>
      cases rb with
      | cons r' rs' =>
        cases j with
        | zero => exact cmp_at x y o (by simpa using hc) ha.1 hb.1 op hop A s _ _ _ _ r r' (by omega)
        | succ j => exact cmps_at xs ys ha.2 hb.2 op hop A s _ _ _ _ rs rs' (by omega) j o (by simpa using hj1) (by simpa using hj2) (by simpa using hc) (by simpa using h1) (by simpa using h2)
end
end PY

set_option Elab.async false
set_option linter.all false
set_option maxRecDepth 100000
set_option maxHeartbeats 4000000
/-! PyM -/
namespace PY
open PySem PySem.Spec PyProof.Rows L2
/-- nothing to repeat, or once: the tuple itself -/
theorem tup_mul_same (l : Addr) (us : Array Value) (n : Nat) (d : Option Addr) (sl : Array (Option Value)) (x : Int) (t : Tok) (c0 : (decide (x < -(2 ^ 63)) || decide (x ≥ 2 ^ 63)) = false) (c1 : (us.isEmpty || x == 1) = true) :
    Meets (Builtin.«tuple.__mul__» ⟨[.ref l, .int x t], []⟩) (fun _ R s => s.heap.get? l = some { cls := .type "tuple", dict := d, data := .seq us n, slots := sl } ∧ R (.ok (.ret (Value.ref l))) s) :=
  .of_wp fun prog w A R s h => by
    obtain ⟨hp, g, dr, tk, os⟩ := s
    obtain ⟨hl, h⟩ := h
    have f1 := AutoSeq1.idx_int
    wp_walk using wpAny_loadPart' hl
    repeat (first
      | (refine wpAny_ite_false (decide_eq_false (by rw [c0]; exact Bool.false_ne_true)) ?_; wp_walk using wpAny_loadPart' hl)
      | (refine wpAny_ite_true (decide_eq_true (by rw [c1])) ?_; wp_walk using wpAny_loadPart' hl))
    exact ⟨_, rfl, h⟩
theorem tup_mul_none (l : Addr) (us : Array Value) (n : Nat) (d : Option Addr) (sl : Array (Option Value)) (x : Int) (t : Tok) (c0 : (decide (x < -(2 ^ 63)) || decide (x ≥ 2 ^ 63)) = false) (c1 : (us.isEmpty || x == 1) = false) (c2 : (decide (x ≤ 0) || us.isEmpty) = true) :
    Meets (Builtin.«tuple.__mul__» ⟨[.ref l, .int x t], []⟩) (fun _ R s => s.heap.get? l = some { cls := .type "tuple", dict := d, data := .seq us n, slots := sl } ∧
      R (.ok (.ret (Value.ref s.heap.objs.size))) { s with heap := s.heap.push { cls := Value.type "tuple", data := Data.seq #[] } }) :=
  .of_wp fun prog w A R s h => by
    obtain ⟨hp, g, dr, tk, os⟩ := s
    obtain ⟨hl, h⟩ := h
    have f1 := AutoSeq1.idx_int
    wp_walk using wpAny_loadPart' hl
    repeat (first
      | (refine wpAny_ite_false (decide_eq_false (by rw [c0]; exact Bool.false_ne_true)) ?_; wp_walk using wpAny_loadPart' hl)
      | (refine wpAny_ite_false (decide_eq_false (by rw [c1]; exact Bool.false_ne_true)) ?_; wp_walk using wpAny_loadPart' hl)
      | (refine wpAny_ite_true (decide_eq_true (by rw [c2])) ?_; wp_walk using wpAny_loadPart' hl))
    exact ⟨_, rfl, h⟩
def rRepA (K : PySem.W.Frag) : R2 := fun x y H Q => ∃ l k xs, x = .ref l ∧ y = .int k ∧ SqT K H l xs ∧ -(2 ^ 62) < k ∧ k ≤ 1000 ∧ xs.length ≤ 1000 ∧
  ((xs = [] ∨ k = 1) → Q (.ref l) H) ∧ (¬ (xs = [] ∨ k = 1) → ∀ p, H p = none → Q (.ref p) (upd H p (.tup (List.replicate k.toNat xs).flatten)))
theorem op_repA {X : L2.Cx} : OpR X (binaryOp .Mult) (rRepA X.K) := by
  intro pins s σ H x y v u Q I rx ry h
  obtain ⟨l, k, xs, rfl, rfl, hT, h1, h2, hz, q1, q2⟩ := h
  by_cases hbig : xs ≠ [] ∧ 2 ≤ k
  · exact op_repT pins s σ H _ _ v u Q I rx ry ⟨l, k, xs, rfl, rfl, hT, hbig.1, hbig.2, h2, hz, q2 (by rintro (e | e); exact hbig.1 e; omega)⟩
  cases rx
  obtain ⟨t, rfl⟩ := ry
  obtain ⟨its, r, ⟨⟨cls, dd, data, sl⟩, ho, hc, n, hd⟩, hs⟩ := I.tuple hT
  simp only at hc hd
  subst hc hd
  have hle : its.length = xs.length := r.length.symm
  have c0 : (decide (k < -(2 ^ 63)) || decide (k ≥ 2 ^ 63)) = false := by
    rw [decide_eq_false (by omega), decide_eq_false (by omega)] <;> rfl
  have he : its.toArray.isEmpty = true ↔ xs = [] := by
    rw [← List.length_eq_zero_iff, ← hle]
    cases its <;> simp
  by_cases hone : xs = [] ∨ k = 1
  · have c1 : (its.toArray.isEmpty || k == 1) = true := by
      rcases hone with e | e
      · rw [he.mpr e]; rfl
      · subst e; simp
    refine wpAny_binaryOp_repeat_ref (T := "tuple") (U := "int") (by decide) ⟨_, ho, rfl⟩ (fun s' => typeIs_int s' k t) noFill_tuple_mul F.fills_int_mul F.slot_int_rmul repeat_tuple F.slot_int_index.lookup
      (call_meets F.slot_int_rmul (typeIs_int s k t) F.entry_int_rmul (F.args_int_rmul_2 _ _) (int_rmul_tuple k t l its.toArray n dd sl)
        ⟨ho, rfl, ⟨_, ho, rfl⟩, call_meets F.slot_tuple_mul ⟨_, ho, rfl⟩ F.entry_tuple_mul (F.args_tuple_mul_2 _ _) (tup_mul_same l its.toArray n dd sl k t c0 c1) ⟨ho, ?_⟩⟩)
    exact ⟨.ref l, H, I, rfl, q1 hone⟩
  · have hne : xs ≠ [] := fun e => hone (.inl e)
    have hk : k ≤ 0 := by
      have n1 : k ≠ 1 := fun e => hone (.inr e)
      have n2 : ¬ 2 ≤ k := fun z => hbig ⟨hne, z⟩
      omega
    have hi : its.toArray.isEmpty = false := by
      cases e : its.toArray.isEmpty with
      | false => rfl
      | true => exact absurd (he.mp e) hne
    have c1 : (its.toArray.isEmpty || k == 1) = false := by
      rw [hi, Bool.false_or]
      exact beq_eq_false_iff_ne.mpr (by omega)
    have c2 : (decide (k ≤ 0) || its.toArray.isEmpty) = true := by
      rw [decide_eq_true hk]; rfl
    refine wpAny_binaryOp_repeat_ref (T := "tuple") (U := "int") (by decide) ⟨_, ho, rfl⟩ (fun s' => typeIs_int s' k t) noFill_tuple_mul F.fills_int_mul F.slot_int_rmul repeat_tuple F.slot_int_index.lookup
      (call_meets F.slot_int_rmul (typeIs_int s k t) F.entry_int_rmul (F.args_int_rmul_2 _ _) (int_rmul_tuple k t l its.toArray n dd sl)
        ⟨ho, rfl, ⟨_, ho, rfl⟩, call_meets F.slot_tuple_mul ⟨_, ho, rfl⟩ F.entry_tuple_mul (F.args_tuple_mul_2 _ _) (tup_mul_none l its.toArray n dd sl k t c0 c1 c2) ⟨ho, ?_⟩⟩)
    have e0 : (List.replicate k.toNat xs).flatten = [] := by rw [show k.toNat = 0 by omega]; rfl
    have q3 := q2 hone _ (I.hok.fresh (Nat.le_refl _))
    rw [e0] at q3
    refine ⟨.ref s.heap.objs.size, _, I.laid (t' := s.toks) (o := .tup []) (fun b ob q => Heap.get?_push_of_some _ q) (Nat.le_refl _) ?_, rfl, q3⟩
    exact ⟨Nat.zero_le _, [], .nil, IsTup.new _ _⟩

/-! PyM -/
theorem rd_obj {X : L2.Cx} {pins : List (Addr × Obj)} {σ : L2.St} {H : Hp} {s : Shared} {l : Addr} {xs : List V} (I : L2.Inv X pins σ H s) (h : Rd H l (.lst xs)) :
    ∃ (its : List Value) (n : Nat), Vals xs its ∧ its.length = xs.length ∧ xs.length ≤ sizeLine ∧ s.heap.get? l = some { cls := .type "list", data := .seq its.toArray n } := by
  obtain ⟨z, its, n, r, e⟩ : xs.length ≤ sizeLine ∧ ∃ (its : List Value) (n : Nat), Vals xs its ∧ s.heap.get? l = some { cls := .type "list", data := .seq its.toArray n } := h.ok I.hok
  exact ⟨its, n, r, r.length.symm, z, e⟩
def rCatR : R2 := fun x y H Q => ∃ l b xs zs, x = .ref l ∧ y = .ref b ∧ Rd H l (.lst xs) ∧ Rd H b (.lst zs) ∧ xs.length + zs.length ≤ sizeLine ∧ ∀ p, H p = none → Q (.ref p) (upd H p (.lst (xs ++ zs)))
theorem op_catR {X : L2.Cx} : OpR X (binaryOp .Add) rCatR := by
  intro pins s σ H x y v u Q I rx ry h
  obtain ⟨l, b, xs, zs, rfl, rfl, hl, hb, hz, q⟩ := h
  cases rx
  cases ry
  obtain ⟨us, n, r1, e1, _, o1⟩ := rd_obj I hl
  obtain ⟨vs, k, r2, e2, _, o2⟩ := rd_obj I hb
  refine PySem.P.add_list o1 o2 ?_ (by simp only [List.size_toArray]; omega)
  rw [show us.toArray ++ vs.toArray = (us ++ vs).toArray by simp]
  exact ⟨.ref _, _, I.lnew (t' := s.toks) (r1.append r2) (by simp only [List.length_append]; exact hz), rfl, q _ I.fresh⟩
def rRepR : R2 := fun x y H Q => ∃ l k xs, x = .ref l ∧ y = .int k ∧ Rd H l (.lst xs) ∧ -(2 ^ 63) ≤ k ∧ k < 2 ^ 63 ∧ xs.length * k.toNat ≤ sizeLine ∧
  ∀ p, H p = none → Q (.ref p) (upd H p (.lst (List.replicate k.toNat xs).flatten))
theorem op_repR {X : L2.Cx} : OpR X (binaryOp .Mult) rRepR := by
  intro pins s σ H x y v u Q I rx ry h
  obtain ⟨l, k, xs, rfl, rfl, hl, h1, h2, hz, q⟩ := h
  cases rx
  obtain ⟨t, rfl⟩ := ry
  obtain ⟨us, n, r, e, _, o⟩ := rd_obj I hl
  have size : us.toArray.size * k.toNat ≤ sizeLine := by simpa only [List.size_toArray, e] using hz
  have cap : ¬ us.toArray.size * k.toNat > (2 ^ 63 - 1) / 8 := by rw [sizeLine_eq] at size; omega
  have fit : ¬ (!Builtin.List.listFitsIndex k) = true := by simp [fitsIndex_both h1 h2]
  have long : ¬ Builtin.List.listTooLong (us.toArray.size * k.toNat) = true := by rw [notLongL size]; decide
  have new : List.foldl (fun a b => a ++ b) #[] (List.replicate (if us.toArray.isEmpty = true then 0 else k.toNat) us.toArray) = (List.replicate k.toNat us).flatten.toArray := by
    cases us with
    | nil => simp
    | cons a r' => rw [if_neg (by simp)]; simpa using foldl_rep (a :: r') k.toNat []
  refine wpAny_binaryOp_repeat_ref (T := "list") (U := "int") (by decide) ⟨_, o, rfl⟩ (fun s' => typeIs_int s' k t) noFill_list_mul F.fills_int_mul F.slot_int_rmul repeat_list F.slot_int_index.lookup
    (call_meets F.slot_int_rmul (typeIs_int s k t) F.entry_int_rmul (F.args_int_rmul_2 _ _) (int___rmul___int_list k t l us.toArray n)
      ⟨o, rfl, ⟨_, o, rfl⟩, call_meets F.slot_list_mul ⟨_, o, rfl⟩ F.entry_list_mul (F.args_list_mul_2 _ _) (AutoListH.list___mul___list_int_3 l us.toArray n k t fit cap long) ⟨o, ?_⟩⟩)
  rw [new]
  exact ⟨.ref _, _, I.lnew (t' := s.toks) (r.rep k.toNat) (by rw [PyProof.Rows.lm_len_rep_flat, Nat.mul_comm]; exact hz), rfl, q _ I.fresh⟩
end PY

set_option Elab.async false
set_option linter.all false
set_option maxRecDepth 100000
/-! PyD -/
namespace PY
open PySem PySem.Spec PyProof.Rows L2
section
variable {K : PySem.W.Frag} {γ : Nm} {W W' : Wd} {m : Mu} {H H' : Hp}
mutual
theorem Rep.dp (h : WOk K γ W m H) : ∀ {d : D} {v : V}, Rep K γ W d v → d.plain = true → Dp K H v (toPy d)
  | .non, v, q, _ => by simp only [Rep] at q; subst q; exact .non
  | .bl b, v, q, _ => by simp only [Rep] at q; subst q; exact .bl b
  | .int i, v, q, _ => by simp only [Rep] at q; subst q; exact .int i
  | .str x, v, q, _ => by simp only [Rep] at q; subst q; exact .str x
  | .tup xs, v, q, p => by
    simp only [Rep] at q
    obtain ⟨a, vs, e, t, r⟩ := q
    subst e
    simp only [toPy]
    exact .tup (h.sqT t) (Reps.dp h r (by simpa only [D.plain] using p))
  | .lst xs, v, q, p => by
    simp only [Rep] at q
    obtain ⟨a, vs, e, t, r⟩ := q
    subst e
    simp only [toPy]
    exact .lst (.inl (t.imp (h.z _ _) fun ⟨o, q⟩ => ⟨o, h.z _ _ q⟩)) (Reps.dp h r (by simpa only [D.plain] using p))
  | .dic _ _, _, _, p => by simp [D.plain] at p
  | .st _, _, _, p => by simp [D.plain] at p
  | .exc _ _, _, _, p => by simp [D.plain] at p
  | .fn _, _, _, p => by simp [D.plain] at p
theorem Reps.dp (h : WOk K γ W m H) : ∀ {ds : List D} {vs : List V}, Reps K γ W ds vs → plains ds = true → DpAll K H vs (toPys ds)
  | [], vs, q, _ => by simp only [Reps] at q; subst q; exact .nil
  | d :: ds, vs, q, p => by
    simp only [Reps] at q
    obtain ⟨v, r, e, h1, h2⟩ := q
    subst e
    simp only [plains, Bool.and_eq_true] at p
    exact .cons (Rep.dp h h1 p.1) (Reps.dp h h2 p.2)
end
theorem RepN.dp (h : WOk K γ W m H) {d : D} {v : V} (q : RepN K γ W H d v) (p : d.plain = true) : Dp K H v (toPy d) := by
  cases d with
  | lst xs =>
    obtain ⟨a, vs, e, t, r⟩ := q
    subst e
    simp only [toPy]
    exact .lst (.inl t) (Reps.dp h r (by simpa only [D.plain] using p))
  | _ => exact Rep.dp h q p
theorem RepN.int {i : Int} {v : V} (q : RepN K γ W H (.int i) v) : v = .int i := by simpa only [RepN, Rep] using q
theorem RepN.bl {i : Bool} {v : V} (q : RepN K γ W H (.bl i) v) : v = .bl i := by simpa only [RepN, Rep] using q
theorem RepN.str {i : Str} {v : V} (q : RepN K γ W H (.str i) v) : v = .str i := by simpa only [RepN, Rep] using q
theorem RepN.non {v : V} (q : RepN K γ W H .non v) : v = .non := by simpa only [RepN, Rep] using q
theorem RepN.tup {xs : List D} {v : V} (q : RepN K γ W H (.tup xs) v) : ∃ a vs, v = .ref a ∧ TupAt K W a vs ∧ Reps K γ W xs vs := by simpa only [RepN, Rep] using q
theorem RepN.lst {xs : List D} {v : V} (q : RepN K γ W H (.lst xs) v) : ∃ a vs, v = .ref a ∧ Rd H a (.lst vs) ∧ Reps K γ W xs vs := q
theorem Reps.nil_of {xs : List D} {vs : List V} (r : Reps K γ W xs vs) (e : vs = []) : xs = [] := by
  have := r.length
  rw [e] at this
  exact List.eq_nil_of_length_eq_zero this.symm
theorem line_eq : line = sizeLine := by rw [sizeLine_eq]; rfl

/-- what is wanted of a value that comes -/
def Get (K : PySem.W.Frag) (γ : Nm) (W : Wd) (m : Mu) (p : D × Bool) (Q : VK) : Prop :=
  ∀ v H' W', W.le W' → W'.f = W.f → WOk K γ W' m H' → RepR K γ W' H' (.val p.1) p.2 v → Q v H'
def rD (K : PySem.W.Frag) (γ : Nm) (f : D → D → Option (D × Bool)) : R2 := fun x y H Q =>
  ∃ W m a b p, WOk K γ W m H ∧ RepN K γ W H a x ∧ RepN K γ W H b y ∧ f a b = some p ∧ Get K γ W m p Q
variable {Q : VK}
theorem Get.int (h : WOk K γ W m H) {i : Int} (q : Get K γ W m (.int i, false) Q) : Q (.int i) H := q _ H W (Wd.le_refl W) rfl h (by simp [RepR, RepT, Rep])
theorem Get.bl (h : WOk K γ W m H) {i : Bool} (q : Get K γ W m (.bl i, false) Q) : Q (.bl i) H := q _ H W (Wd.le_refl W) rfl h (by simp [RepR, RepT, Rep])
theorem Get.str (h : WOk K γ W m H) {i : Str} (q : Get K γ W m (.str i, false) Q) : Q (.str i) H := q _ H W (Wd.le_refl W) rfl h (by simp [RepR, RepT, Rep])
theorem Get.tupN (h : WOk K γ W m H) {xs : List D} {vs : List V} (r : Reps K γ W xs vs) (q : Get K γ W m (.tup xs, false) Q) : ∀ p, H p = none → Q (.ref p) (upd H p (.tup vs)) := fun p hp => by
  obtain ⟨W', l, f, w, e⟩ := new_tup h hp r
  exact q _ _ W' l f w e
theorem Get.lstN (h : WOk K γ W m H) {xs : List D} {vs : List V} (r : Reps K γ W xs vs) (q : Get K γ W m (.lst xs, true) Q) : ∀ p, H p = none → Q (.ref p) (upd H p (.lst vs)) := fun p hp => by
  obtain ⟨w, e⟩ := new_lst h hp r
  exact q _ _ W (Wd.le_refl W) rfl w e
theorem Get.old (h : WOk K γ W m H) {d : D} {v : V} (r : Rep K γ W d v) (q : Get K γ W m (d, false) Q) : Q v H := q v H W (Wd.le_refl W) rfl h r
end

section
variable {X : L2.Cx} {γ : Nm}
theorem bop_add : OpR X (binaryOp .Add) (rD X.K γ (bop .Add)) := by
  intro pins s σ H x y v u Q I rx ry ⟨W, m, a, b, p, hW, ra, rb, hf, q⟩
  cases a <;> cases b <;> simp only [bop] at hf <;> first | (cases hf; done) | skip
  case int.int i j =>
    cases hf
    obtain rfl := ra.int; obtain rfl := rb.int
    exact op_add pins s σ H _ _ v u Q I rx ry ⟨i, j, rfl, rfl, q.int hW⟩
  case str.str i j =>
    split at hf
    · rename_i hz
      cases hf
      obtain rfl := ra.str; obtain rfl := rb.str
      exact op_add_str pins s σ H _ _ v u Q I rx ry ⟨i, j, rfl, rfl, by rw [← line_eq]; exact hz, q.str hW⟩
    · cases hf
  case tup.tup xs ys =>
    split at hf
    · rename_i hz
      cases hf
      obtain ⟨pa, va, rfl, ta, r1⟩ := ra.tup
      obtain ⟨pb, vb, rfl, tb, r2⟩ := rb.tup
      refine op_catA pins s σ H _ _ v u Q I rx ry ⟨pa, pb, va, vb, rfl, rfl, hW.sqT ta, hW.sqT tb, by rw [r1.length, r2.length, ← line_eq]; exact hz, fun e => ?_, fun _ e => ?_, fun _ _ => q.tupN hW (r1.append r2)⟩
      · obtain rfl := r1.nil_of e
        rw [List.nil_append] at q
        exact q.old hW (by simpa only [RepN] using rb)
      · obtain rfl := r2.nil_of e
        rw [List.append_nil] at q
        exact q.old hW (by simpa only [RepN] using ra)
    · cases hf
  case lst.lst xs ys =>
    split at hf
    · rename_i hz
      cases hf
      obtain ⟨pa, va, rfl, ta, r1⟩ := ra.lst
      obtain ⟨pb, vb, rfl, tb, r2⟩ := rb.lst
      exact op_catR pins s σ H _ _ v u Q I rx ry ⟨pa, pb, va, vb, rfl, rfl, ta, tb, by rw [r1.length, r2.length, ← line_eq]; exact hz, q.lstN hW (r1.append r2)⟩
    · cases hf

theorem mulOk_W {i j : Int} (h : mulOk i j = true) : CMul i j ∨ CMulW i j := by
  simp only [mulOk, Bool.or_eq_true, Bool.and_eq_true, decide_eq_true_eq] at h
  rcases h with (h | h) | ⟨h1, h2⟩
  · exact .inl (.inl ⟨by omega, by omega⟩)
  · exact .inl (.inr ⟨by omega, by omega⟩)
  · exact .inr (wide_mul h1 h2 (by decide) (by decide) (by decide))
theorem bop_sub : OpR X (binaryOp .Sub) (rD X.K γ (bop .Sub)) := by
  intro pins s σ H x y v u Q I rx ry ⟨W, m, a, b, p, hW, ra, rb, hf, q⟩
  cases a <;> cases b <;> simp only [bop] at hf <;> first | (cases hf; done) | skip
  case int.int i j =>
    cases hf
    obtain rfl := ra.int; obtain rfl := rb.int
    exact op_sub pins s σ H _ _ v u Q I rx ry ⟨i, j, rfl, rfl, q.int hW⟩
theorem bop_mul : OpR X (binaryOp .Mult) (rD X.K γ (bop .Mult)) := by
  intro pins s σ H x y v u Q I rx ry ⟨W, m, a, b, p, hW, ra, rb, hf, q⟩
  cases a <;> cases b <;> simp only [bop] at hf <;> first | (cases hf; done) | skip
  case int.int i j =>
    split at hf
    · rename_i hz
      cases hf
      obtain rfl := ra.int; obtain rfl := rb.int
      rcases mulOk_W hz with c | c
      · exact op_mul pins s σ H _ _ v u Q I rx ry ⟨i, j, rfl, rfl, c, q.int hW⟩
      · exact op_mulW pins s σ H _ _ v u Q I rx ry ⟨i, j, rfl, rfl, c, q.int hW⟩
    · cases hf
  case tup.int xs n =>
    split at hf
    · rename_i hz
      cases hf
      simp only [Bool.and_eq_true, decide_eq_true_eq] at hz
      obtain rfl := rb.int
      obtain ⟨pa, va, rfl, ta, r1⟩ := ra.tup
      refine op_repA pins s σ H _ _ v u Q I rx ry ⟨pa, n, va, rfl, rfl, hW.sqT ta, by omega, by omega, by rw [r1.length]; exact hz.2, fun e => ?_, fun _ => q.tupN hW (r1.rep n.toNat)⟩
      have e2 : (List.replicate n.toNat xs).flatten = xs := by
        rcases e with e | e
        · obtain rfl := r1.nil_of e
          simp
        · subst e
          show (List.replicate 1 xs).flatten = xs
          simp
      rw [e2] at q
      exact q.old hW (by simpa only [RepN] using ra)
    · cases hf
  case lst.int xs n =>
    split at hf
    · rename_i hz
      cases hf
      simp only [Bool.and_eq_true, decide_eq_true_eq] at hz
      obtain rfl := rb.int
      obtain ⟨pa, va, rfl, ta, r1⟩ := ra.lst
      exact op_repR pins s σ H _ _ v u Q I rx ry ⟨pa, n, va, rfl, rfl, ta, by omega, by omega, by rw [r1.length, ← line_eq]; exact hz.2, q.lstN hW (r1.rep n.toNat)⟩
    · cases hf
theorem bop_fdiv : OpR X (binaryOp .FloorDiv) (rD X.K γ (bop .FloorDiv)) := by
  intro pins s σ H x y v u Q I rx ry ⟨W, m, a, b, p, hW, ra, rb, hf, q⟩
  cases a <;> cases b <;> simp only [bop] at hf <;> first | (cases hf; done) | skip
  case int.int i j =>
    split at hf
    · rename_i hz
      cases hf
      simp only [divOk, Bool.and_eq_true, decide_eq_true_eq] at hz
      obtain rfl := ra.int; obtain rfl := rb.int
      exact op_fdivW pins s σ H _ _ v u Q I rx ry ⟨i, j, rfl, rfl, wide_div (b := 1024) hz.1 (by have h3 := hz.1; rw [show j.natAbs = j.toNat by omega]; exact hz.2) (by decide) (by decide), q.int hW⟩
    · cases hf
theorem bop_mod : OpR X (binaryOp .Mod) (rD X.K γ (bop .Mod)) := by
  intro pins s σ H x y v u Q I rx ry ⟨W, m, a, b, p, hW, ra, rb, hf, q⟩
  cases a <;> cases b <;> simp only [bop] at hf <;> first | (cases hf; done) | skip
  case int.int i j =>
    split at hf
    · rename_i hz
      cases hf
      obtain rfl := ra.int; obtain rfl := rb.int
      exact op_mod pins s σ H _ _ v u Q I rx ry ⟨i, j, rfl, rfl, by simpa using hz, q.int hW⟩
    · cases hf
theorem bop_pow : OpR X (binaryOp .Pow) (rD X.K γ (bop .Pow)) := by
  intro pins s σ H x y v u Q I rx ry ⟨W, m, a, b, p, hW, ra, rb, hf, q⟩
  cases a <;> cases b <;> simp only [bop] at hf <;> first | (cases hf; done) | skip
  case int.int i j =>
    split at hf
    · rename_i hz
      cases hf
      simp only [Bool.and_eq_true, decide_eq_true_eq] at hz
      obtain rfl := ra.int; obtain rfl := rb.int
      exact op_pow pins s σ H _ _ v u Q I rx ry ⟨i, j, rfl, rfl, ⟨hz.1.1, by have := hz.1.2; omega, hz.2⟩, q.int hW⟩
    · cases hf
theorem bop_ok (op : Operator) : OpR X (binaryOp op) (rD X.K γ (bop op)) := by
  cases op with
  | Add => exact bop_add
  | Sub => exact bop_sub
  | Mult => exact bop_mul
  | FloorDiv => exact bop_fdiv
  | Mod => exact bop_mod
  | Pow => exact bop_pow
  | _ => intro pins s σ H x y v u Q I rx ry ⟨W, m, a, b, p, hW, ra, rb, hf, q⟩; cases a <;> cases b <;> cases hf

/-! PyD -/
def rC (K : PySem.W.Frag) (γ : Nm) (f : D → D → Option Bool) : R2 := fun x y H Q =>
  ∃ W m a b k, WOk K γ W m H ∧ RepN K γ W H a x ∧ RepN K γ W H b y ∧ f a b = some k ∧ Q (.bl k) H
theorem okCmp_of {a b : D} (h : okCmp a b = true) : a.plain = true ∧ b.plain = true ∧ min a.depth b.depth ≤ 64 := by
  simp only [okCmp, Bool.and_eq_true, decide_eq_true_eq] at h
  exact ⟨h.1.1, h.1.2, h.2⟩
theorem isc_ok {op : CmpOp} (hop : op = .Is ∨ op = .IsNot) : OpR X (compareOp op) (rC X.K γ (cop op)) := by
  intro pins s σ H x y v u Q I rx ry ⟨W, m, a, b, k, hW, ra, rb, hf, q⟩
  rcases hop with rfl | rfl
  · cases b <;> simp only [cop] at hf <;> first | (cases hf; done) | skip
    case non =>
      obtain rfl := rb.non
      refine op_isN pins s σ H _ _ v u Q I rx ry ⟨rfl, ?_⟩
      have e : decide (x = .non) = k := by
        cases a with
        | non => obtain rfl := ra.non; cases hf; rfl
        | bl _ => obtain rfl := ra.bl; cases hf; rfl
        | int _ => obtain rfl := ra.int; cases hf; rfl
        | str _ => obtain rfl := ra.str; cases hf; rfl
        | tup _ => obtain ⟨_, _, rfl, _⟩ := ra.tup; cases hf; rfl
        | lst _ => obtain ⟨_, _, rfl, _⟩ := ra.lst; cases hf; rfl
        | exc _ _ => simp only [RepN, Rep] at ra; obtain ⟨_, _, _, _, rfl, _⟩ := ra; cases hf; rfl
        | fn _ => simp only [RepN, Rep] at ra; obtain ⟨_, rfl, _⟩ := ra; cases hf; rfl
        | dic _ _ => simp only [RepN, Rep] at ra
        | st _ => simp only [RepN, Rep] at ra
      rw [e]; exact q
    case bl c =>
      obtain rfl := rb.bl
      cases a <;> simp only at hf <;> first | (cases hf; done) | skip
      case bl d =>
        cases hf
        obtain rfl := ra.bl
        exact op_is_bl pins s σ H _ _ v u Q I rx ry ⟨d, c, rfl, rfl, by rw [show decide (d = c) = (c == d) by cases c <;> cases d <;> rfl]; exact q⟩
  · cases b <;> simp only [cop] at hf <;> first | (cases hf; done) | skip
    case non =>
      obtain rfl := rb.non
      refine op_notN pins s σ H _ _ v u Q I rx ry ⟨rfl, ?_⟩
      have e : (!decide (x = .non)) = k := by
        cases a with
        | non => obtain rfl := ra.non; cases hf; rfl
        | bl _ => obtain rfl := ra.bl; cases hf; rfl
        | int _ => obtain rfl := ra.int; cases hf; rfl
        | str _ => obtain rfl := ra.str; cases hf; rfl
        | tup _ => obtain ⟨_, _, rfl, _⟩ := ra.tup; cases hf; rfl
        | lst _ => obtain ⟨_, _, rfl, _⟩ := ra.lst; cases hf; rfl
        | exc _ _ => simp only [RepN, Rep] at ra; obtain ⟨_, _, _, _, rfl, _⟩ := ra; cases hf; rfl
        | fn _ => simp only [RepN, Rep] at ra; obtain ⟨_, rfl, _⟩ := ra; cases hf; rfl
        | dic _ _ => simp only [RepN, Rep] at ra
        | st _ => simp only [RepN, Rep] at ra
      rw [e]; exact q
    case bl c =>
      obtain rfl := rb.bl
      cases a <;> simp only at hf <;> first | (cases hf; done) | skip
      case bl d =>
        cases hf
        obtain rfl := ra.bl
        exact op_isnot_bl pins s σ H _ _ v u Q I rx ry ⟨d, c, rfl, rfl, by rw [show (!decide (d = c)) = (c != d) by cases c <;> cases d <;> rfl]; exact q⟩
theorem cop_eq (hu : X.A.units + 64 < cLine) : OpR X (compareOp .Eq) (rC X.K γ (cop .Eq)) := by
  intro pins s σ H x y v u Q I rx ry ⟨W, m, a, b, k, hW, ra, rb, hf, q⟩
  simp only [cop] at hf
  split at hf
  · rename_i h
    obtain ⟨pa, pb, hd⟩ := okCmp_of h
    cases hf
    obtain ⟨as, r1⟩ := Dp.reads I _ x v (ra.dp hW pa) rx
    obtain ⟨bs, r2⟩ := Dp.reads I _ y u (rb.dp hW pb) ry
    refine SeqAt.compareEq_reads r1 r2 (lay_of a pa) (lay_of b pb) (by rw [depth_of, depth_of]; omega) ?_
    rw [eqv_of a b pa pb]
    exact ⟨.bl _, H, I, rfl, q⟩
  · cases hf
theorem cop_ne (hu : X.A.units + 64 < cLine) : OpR X (compareOp .NotEq) (rC X.K γ (cop .NotEq)) := by
  intro pins s σ H x y v u Q I rx ry ⟨W, m, a, b, k, hW, ra, rb, hf, q⟩
  simp only [cop] at hf
  split at hf
  · rename_i h
    obtain ⟨pa, pb, hd⟩ := okCmp_of h
    cases hf
    obtain ⟨as, r1⟩ := Dp.reads I _ x v (ra.dp hW pa) rx
    obtain ⟨bs, r2⟩ := Dp.reads I _ y u (rb.dp hW pb) ry
    refine SeqAt.compareNe_reads r1 r2 (lay_of a pa) (lay_of b pb) (by rw [depth_of, depth_of]; omega) ?_
    rw [eqv_of a b pa pb]
    exact ⟨.bl _, H, I, rfl, q⟩
  · cases hf
theorem cop_ord {op : CmpOp} (hop : ordOp op = true) (hu : X.A.units + 64 < cLine) : OpR X (compareOp op) (rC X.K γ (cop op)) := by
  intro pins s σ H x y v u Q I rx ry ⟨W, m, a, b, k, hW, ra, rb, hf, q⟩
  have hf' : (if okCmp a b then (cmpD a b).map (opB op) else none) = some k := by
    rw [← hf]
    cases op <;> first | cases hop; done | rfl
  split at hf'
  · rename_i h
    obtain ⟨pa, pb, hd⟩ := okCmp_of h
    simp only [Option.map_eq_some_iff] at hf'
    obtain ⟨o, ho, hk⟩ := hf'
    obtain ⟨as, r1⟩ := Dp.reads I _ x v (ra.dp hW pa) rx
    obtain ⟨bs, r2⟩ := Dp.reads I _ y u (rb.dp hW pb) ry
    have z := cmp_at a b o ho pa pb op hop X.A s v u as bs r1 r2 (by omega) X.prog X.w X.xe (EP X pins σ Q)
    have e : compareOp op v u = richCompare op v u := by cases op <;> first | cases hop; done | rfl
    rw [e]
    refine z ⟨.bl _, H, I, rfl, ?_⟩
    rw [hk]; exact q
  · cases hf'
theorem any_toPys {a : D} (pa : a.plain = true) : ∀ xs : List D, plains xs = true → (toPys xs).any (fun y => PyData.eqv y (toPy a)) = xs.any fun y => eqD y a
  | [], _ => rfl
  | z :: zs, pb => by
    simp only [plains, Bool.and_eq_true] at pb
    simp only [toPys, List.any_cons, any_toPys pa zs pb.2, eqv_of z a pb.1 pa]
theorem cop_in (hu : X.A.units + 64 < cLine) : OpR X (compareOp .In) (rC X.K γ (cop .In)) := by
  intro pins s σ H x y v u Q I rx ry ⟨W, m, a, b, k, hW, ra, rb, hf, q⟩
  simp only [cop] at hf
  cases b <;> simp only [inD] at hf <;> first | (cases hf; done) | skip
  case str z =>
    obtain rfl := rb.str
    cases a <;> simp only at hf <;> first | (cases hf; done) | skip
    case str c =>
      obtain rfl := ra.str
      split at hf
      · rename_i n hc
        cases hf
        have e : c = ⟨#[n]⟩ := by
          cases c
          simp only at hc
          congr
          exact Array.toList_inj.mp (by simpa using hc)
        subst e
        exact op_in_sign pins s σ H _ _ v u Q I rx ry ⟨n, z, rfl, rfl, q⟩
      · cases hf
  all_goals
    split at hf
    · rename_i xs h
      simp only [Bool.and_eq_true, decide_eq_true_eq] at h
      obtain ⟨⟨pa, pb⟩, hd⟩ := h
      cases hf
      obtain ⟨as, r1⟩ := Dp.reads I _ x v (ra.dp hW pa) rx
      obtain ⟨bs, r2⟩ := Dp.reads I _ y u (rb.dp hW (by simpa only [D.plain] using pb)) ry
      simp only [toPy] at r2
      have e := any_toPys pa xs pb
      first
        | refine SeqAt.in_list_reads r2 r1 (lays_of xs pb) (lay_of a pa) (by rw [depth_of, depths_of]; omega) ?_
        | refine SeqAt.in_tuple_reads r2 r1 (lays_of xs pb) (lay_of a pa) (by rw [depth_of, depths_of]; omega) ?_
      rw [e]
      exact ⟨.bl _, H, I, rfl, q⟩
    · cases hf
theorem cop_notin (hu : X.A.units + 64 < cLine) : OpR X (compareOp .NotIn) (rC X.K γ (cop .NotIn)) := by
  intro pins s σ H x y v u Q I rx ry ⟨W, m, a, b, k, hW, ra, rb, hf, q⟩
  simp only [cop] at hf
  cases b <;> simp only [inD] at hf <;> first | (cases hf; done) | skip
  case str z =>
    obtain rfl := rb.str
    cases a <;> simp only at hf <;> first | (cases hf; done) | skip
    case str c =>
      obtain rfl := ra.str
      split at hf
      · rename_i n hc
        cases hf
        have e : c = ⟨#[n]⟩ := by
          cases c
          simp only at hc
          congr
          exact Array.toList_inj.mp (by simpa using hc)
        subst e
        exact op_notIn_sign pins s σ H _ _ v u Q I rx ry ⟨n, z, rfl, rfl, q⟩
      · cases hf
  all_goals
    split at hf
    · rename_i xs h
      simp only [Bool.and_eq_true, decide_eq_true_eq] at h
      obtain ⟨⟨pa, pb⟩, hd⟩ := h
      cases hf
      obtain ⟨as, r1⟩ := Dp.reads I _ x v (ra.dp hW pa) rx
      obtain ⟨bs, r2⟩ := Dp.reads I _ y u (rb.dp hW (by simpa only [D.plain] using pb)) ry
      simp only [toPy] at r2
      have e := any_toPys pa xs pb
      first
        | refine SeqAt.notIn_list_reads r2 r1 (lays_of xs pb) (lay_of a pa) (by rw [depth_of, depths_of]; omega) ?_
        | refine SeqAt.notIn_tuple_reads r2 r1 (lays_of xs pb) (lay_of a pa) (by rw [depth_of, depths_of]; omega) ?_
      rw [e]
      exact ⟨.bl _, H, I, rfl, q⟩
    · cases hf
theorem cop_ok (hu : X.A.units + 64 < cLine) (op : CmpOp) : OpR X (compareOp op) (rC X.K γ (cop op)) := by
  cases op with
  | Eq => exact cop_eq hu
  | NotEq => exact cop_ne hu
  | Lt => exact cop_ord rfl hu
  | LtE => exact cop_ord rfl hu
  | Gt => exact cop_ord rfl hu
  | GtE => exact cop_ord rfl hu
  | Is => exact isc_ok (.inl rfl)
  | IsNot => exact isc_ok (.inr rfl)
  | In => exact cop_in hu
  | NotIn => exact cop_notin hu

/-! PyD -/
theorem neg_ok : UnR X (unaryOp .USub) (fun x H Q => ∃ W m a b, WOk X.K γ W m H ∧ RepN X.K γ W H a x ∧ negD a = some b ∧ Get X.K γ W m (b, false) Q) := by
  intro pins s σ H x v Q I rx ⟨W, m, a, b, hW, ra, hf, q⟩
  cases a <;> simp only [negD] at hf <;> first | (cases hf; done) | skip
  case int i =>
    cases hf
    obtain rfl := ra.int
    exact un_neg pins s σ H _ v Q I rx ⟨i, rfl, q.int hW⟩
theorem truth_V {K : PySem.W.Frag} {W : Wd} {m : Mu} {H : Hp} {d : D} {x : V} {k : Bool} (hW : WOk K γ W m H) (r : RepN K γ W H d x) (h : truth d = some k) : TruV K x H k := by
  cases d <;> simp only [truth] at h <;> first | (cases h; done) | skip
  case non => cases h; obtain rfl := r.non; rfl
  case bl b => cases h; obtain rfl := r.bl; rfl
  case int b => cases h; obtain rfl := r.int; rfl
  case str b =>
    split at h
    · rename_i hz
      cases h; obtain rfl := r.str; exact ⟨by rw [sizeLine_eq]; exact hz, rfl⟩
    · cases h
  case tup xs =>
    cases h
    obtain ⟨a, vs, rfl, t, q⟩ := r.tup
    refine .inr (.inl ⟨vs, hW.sqT t, ?_⟩)
    have := q.length
    cases xs <;> cases vs <;> simp_all
  case lst xs =>
    cases h
    obtain ⟨a, vs, rfl, t, q⟩ := r.lst
    refine .inl ⟨vs, .inl t, ?_⟩
    have := q.length
    cases xs <;> cases vs <;> simp_all
  case dic ks vs => simp only [RepN, Rep] at r
theorem ixN_L {n : Nat} {i : Int} : PY.ixN n i = L2.ixN n i := by
  unfold PY.ixN L2.ixN
  rfl
theorem atD_rep {K : PySem.W.Frag} {W : Wd} {xs : List D} {vs : List V} {i : Int} {d : D} (r : Reps K γ W xs vs) (h : atD xs i = some d) : ∃ v, atI vs i = some v ∧ Rep K γ W d v := by
  simp only [atD, Option.bind_eq_some_iff] at h
  obtain ⟨j, h1, h2⟩ := h
  obtain ⟨v, e, q⟩ := r.get h2
  refine ⟨v, ?_, q⟩
  simp only [atI, Option.bind_eq_some_iff]
  exact ⟨j, by rw [r.length, ← ixN_L]; exact h1, e⟩
theorem atD_str {xs : List Nat} {i : Int} {c : Nat} (h : atD xs i = some c) : atI xs i = some c := by
  simp only [atD, Option.bind_eq_some_iff] at h
  obtain ⟨j, h1, h2⟩ := h
  simp only [atI, Option.bind_eq_some_iff]
  exact ⟨j, by rw [← ixN_L]; exact h1, h2⟩
theorem idx_ok : IxR X (rD X.K γ fun a b => (idxD a b).map fun d => (d, false)) := by
  intro value slice pins s σ H x y v u Q I rx ry ⟨W, m, a, b, p, hW, ra, rb, hf, q⟩ hs
  simp only [Option.map_eq_some_iff] at hf
  obtain ⟨d, hf, rfl⟩ := hf
  cases a <;> cases b <;> simp only [idxD] at hf <;> first | (cases hf; done) | skip
  case tup.int xs i =>
    obtain rfl := rb.int
    obtain ⟨pa, va, rfl, ta, r1⟩ := ra.tup
    obtain ⟨w, e, r⟩ := atD_rep r1 hf
    exact ix_tup value slice pins s σ H _ _ v u Q I rx ry ⟨pa, va, i, w, rfl, rfl, hW.sqT ta, e, q.old hW r⟩ hs
  case lst.int xs i =>
    obtain rfl := rb.int
    obtain ⟨pa, va, rfl, ta, r1⟩ := ra.lst
    obtain ⟨w, e, r⟩ := atD_rep r1 hf
    exact ix_list value slice pins s σ H _ _ v u Q I rx ry ⟨pa, va, i, w, rfl, rfl, (.inl ta), e, q.old hW r⟩ hs
  case str.int z i =>
    split at hf
    · rename_i hz
      obtain rfl := rb.int
      obtain rfl := ra.str
      simp only [Option.map_eq_some_iff] at hf
      obtain ⟨c, hc, rfl⟩ := hf
      exact ix_str value slice pins s σ H _ _ v u Q I rx ry ⟨z, i, c, rfl, rfl, by rw [← line_eq]; exact hz, atD_str hc, q.str hW⟩ hs
    · cases hf
def slO (d : D) : Option (Option Int) :=
  match d with
  | .non => some none
  | .int i => some (some i)
  | _ => none
theorem sx_of {n k j : Nat} {d : D} {o : Option Int} (h : slO d = some o) (h2 : sx n k d = some j) : HT.sIx n k o = j := by
  cases d <;> simp only [slO] at h <;> first | (cases h; done) | skip
  case non => cases h; cases h2; rfl
  case int i => cases h; simp only [sx, Option.some.injEq] at h2; rw [← h2]; rfl
theorem cut_rep {K : PySem.W.Frag} {W : Wd} {xs : List D} {vs : List V} {lo hi : Option Int} (r : Reps K γ W xs vs) : Reps K γ W (cutL xs (HT.sIx xs.length 0 lo) (HT.sIx xs.length xs.length hi)) (cutV vs lo hi) := by
  unfold cutL cutV
  rw [r.length]
  exact (r.drop _).take _
theorem slc_ok : SlR X (fun x lo hi H Q => ∃ W m a l h p, slO l = some lo ∧ slO h = some hi ∧ WOk X.K γ W m H ∧ RepN X.K γ W H a x ∧ slcD a l h = some p ∧ Get X.K γ W m p Q) := by
  intro pins s σ H x v vl vu lo hi sl Q I rx hs pl pu ⟨W, m, a, l, h, p, hl, hh, hW, ra, hf, q⟩
  cases a <;> simp only [slcD] at hf <;> first | (cases hf; done) | skip
  case tup xs =>
    simp only [Option.bind_eq_some_iff, Option.map_eq_some_iff] at hf
    obtain ⟨i, hi1, j, hj, rfl⟩ := hf
    obtain ⟨pa, va, rfl, ta, r1⟩ := ra.tup
    have e1 := sx_of hl hi1
    have e2 := sx_of hh hj
    refine sl_tupA pins s σ H _ v vl vu lo hi sl Q I rx hs pl pu ⟨pa, va, rfl, hW.sqT ta, fun e => ?_, fun _ => ?_⟩
    · rw [r1.length, e1, e2] at e
      obtain ⟨rfl, rfl⟩ := e
      have e3 : cutL xs 0 xs.length = xs := by simp [cutL]
      rw [e3] at q
      exact q.old hW (by simpa only [RepN] using ra)
    · rw [← e1, ← e2] at q
      exact q.tupN hW (cut_rep r1)
  case lst xs =>
    simp only [Option.bind_eq_some_iff, Option.map_eq_some_iff] at hf
    obtain ⟨i, hi1, j, hj, rfl⟩ := hf
    obtain ⟨pa, va, rfl, ta, r1⟩ := ra.lst
    have e1 := sx_of hl hi1
    have e2 := sx_of hh hj
    rw [← e1, ← e2] at q
    exact sl_list pins s σ H _ v vl vu lo hi sl Q I rx hs pl pu ⟨pa, va, rfl, (.inl ta), q.lstN hW (cut_rep r1)⟩
  case str z =>
    split at hf
    · rename_i hz
      simp only [Option.bind_eq_some_iff, Option.map_eq_some_iff] at hf
      obtain ⟨i, hi1, j, hj, rfl⟩ := hf
      obtain rfl := ra.str
      have e1 := sx_of hl hi1
      have e2 := sx_of hh hj
      rw [← e1, ← e2] at q
      exact sl_str pins s σ H _ v vl vu lo hi sl Q I rx hs pl pu ⟨z, rfl, by rw [← line_eq]; exact hz, q.str hW⟩
    · cases hf
end
end PY

set_option Elab.async false
set_option linter.all false
set_option maxRecDepth 100000
/-! PyE -/
namespace PY
open PySem PySem.Spec PyProof.Rows L2
def RepNs (K : PySem.W.Frag) (γ : Nm) (W : Wd) (H : Hp) : List D → List V → Prop
  | [], vs => vs = []
  | d :: ds, vs => ∃ v r, vs = v :: r ∧ RepN K γ W H d v ∧ RepNs K γ W H ds r
def rL (K : PySem.W.Frag) (γ : Nm) (f : List D → Option (D × Bool)) : List V → Hp → VK → Prop := fun xs H Q =>
  ∃ W m ds p, WOk K γ W m H ∧ RepNs K γ W H ds xs ∧ f ds = some p ∧ Get K γ W m p Q
section
variable {K : PySem.W.Frag} {γ : Nm} {W : Wd} {m : Mu} {H : Hp}
theorem RepNs.one {d : D} {xs : List V} (h : RepNs K γ W H [d] xs) : ∃ x, xs = [x] ∧ RepN K γ W H d x := by
  obtain ⟨v, r, e, h1, h2⟩ := h
  have h3 : r = [] := h2
  subst h3
  exact ⟨v, e, h1⟩
theorem RepNs.two {d e : D} {xs : List V} (h : RepNs K γ W H [d, e] xs) : ∃ x y, xs = [x, y] ∧ RepN K γ W H d x ∧ RepN K γ W H e y := by
  obtain ⟨v, r, q, h1, h2⟩ := h
  obtain ⟨u, rfl, h3⟩ := RepNs.one h2
  exact ⟨v, u, q, h1, h3⟩
theorem Reps.intsOf : ∀ {xs : List D} {vs : List V} {is : List Int}, Reps K γ W xs vs → intsOf xs = some is → vs = is.map V.int
  | [], vs, is, r, h => by
    simp only [Reps] at r
    simp only [PY.intsOf, Option.some.injEq] at h
    subst h; rw [r]; rfl
  | .int i :: xs, vs, is, r, h => by
    simp only [Reps] at r
    obtain ⟨v, q, rfl, h1, h2⟩ := r
    simp only [PY.intsOf, Option.map_eq_some_iff] at h
    obtain ⟨js, hj, rfl⟩ := h
    simp only [Rep] at h1
    rw [h1, Reps.intsOf h2 hj]; rfl
  | .non :: _, _, _, _, h => by simp [PY.intsOf] at h
  | .bl _ :: _, _, _, _, h => by simp [PY.intsOf] at h
  | .str _ :: _, _, _, _, h => by simp [PY.intsOf] at h
  | .tup _ :: _, _, _, _, h => by simp [PY.intsOf] at h
  | .lst _ :: _, _, _, _, h => by simp [PY.intsOf] at h
  | .dic _ _ :: _, _, _, _, h => by simp [PY.intsOf] at h
  | .st _ :: _, _, _, _, h => by simp [PY.intsOf] at h
  | .exc _ _ :: _, _, _, _, h => by simp [PY.intsOf] at h
  | .fn _ :: _, _, _, _, h => by simp [PY.intsOf] at h
/-- a scalar's truth -/
def scaV : V → Bool
  | .bl b => b
  | .int i => i != 0
  | _ => false
theorem Reps.boolsOf : ∀ {xs : List D} {vs : List V} {bs : List Bool}, Reps K γ W xs vs → boolsOf xs = some bs → vs.map scaV = bs ∧ ∀ v ∈ vs, (∃ b, v = .bl b) ∨ (∃ i, v = .int i) ∨ v = .non
  | [], vs, is, r, h => by
    simp only [Reps] at r
    simp only [PY.boolsOf, Option.some.injEq] at h
    subst h; rw [r]; exact ⟨rfl, by simp⟩
  | .bl b :: xs, vs, is, r, h => by
    simp only [Reps] at r
    obtain ⟨v, q, rfl, h1, h2⟩ := r
    simp only [PY.boolsOf, Option.map_eq_some_iff] at h
    obtain ⟨js, hj, rfl⟩ := h
    simp only [Rep] at h1
    subst h1
    obtain ⟨e1, e2⟩ := Reps.boolsOf h2 hj
    exact ⟨by simp [scaV, e1], fun v hv => (List.mem_cons.mp hv).elim (fun e => .inl ⟨b, e⟩) (e2 v)⟩
  | .int b :: xs, vs, is, r, h => by
    simp only [Reps] at r
    obtain ⟨v, q, rfl, h1, h2⟩ := r
    simp only [PY.boolsOf, Option.map_eq_some_iff] at h
    obtain ⟨js, hj, rfl⟩ := h
    simp only [Rep] at h1
    subst h1
    obtain ⟨e1, e2⟩ := Reps.boolsOf h2 hj
    exact ⟨by simp [scaV, e1], fun v hv => (List.mem_cons.mp hv).elim (fun e => .inr (.inl ⟨b, e⟩)) (e2 v)⟩
  | .non :: xs, vs, is, r, h => by
    simp only [Reps] at r
    obtain ⟨v, q, rfl, h1, h2⟩ := r
    simp only [PY.boolsOf, Option.map_eq_some_iff] at h
    obtain ⟨js, hj, rfl⟩ := h
    simp only [Rep] at h1
    subst h1
    obtain ⟨e1, e2⟩ := Reps.boolsOf h2 hj
    exact ⟨by simp [scaV, e1], fun v hv => (List.mem_cons.mp hv).elim (fun e => .inr (.inr e)) (e2 v)⟩
  | .str _ :: _, _, _, _, h => by simp [PY.boolsOf] at h
  | .tup _ :: _, _, _, _, h => by simp [PY.boolsOf] at h
  | .lst _ :: _, _, _, _, h => by simp [PY.boolsOf] at h
  | .dic _ _ :: _, _, _, _, h => by simp [PY.boolsOf] at h
  | .st _ :: _, _, _, _, h => by simp [PY.boolsOf] at h
  | .exc _ _ :: _, _, _, _, h => by simp [PY.boolsOf] at h
  | .fn _ :: _, _, _, _, h => by simp [PY.boolsOf] at h
end
section
variable {X : L2.Cx} {γ : Nm} {W : Wd} {m : Mu} {H : Hp} {pins : List (Addr × Obj)} {σ : L2.St} {s : Shared}
/-- a list or a tuple is walked: its items, all else stays -/
theorem seq_walk (I : L2.Inv X pins σ H s) (hc : X.calm = true) (hW : WOk X.K γ W m H) {d : D} {x : V} {v : Value} {xs : List D} (r : RepN X.K γ W H d x) (hs : seqD d = some xs) (rx : RelV x v)
    {Q : Value → Shared → Prop} {E : Value → Shared → Prop}
    (h : ∀ (vs : List V) (its : List Value) (J : Addr) (fp wr : List Addr) (St : Nat → Heap → Prop) (s2 : Shared), Reps X.K γ W xs vs → Vals vs its → its.length = xs.length → xs.length ≤ sizeLine →
      Walks X.prog X.w X.A.in1 J fp wr its.length (fun i v => its[i]? = some v) St → St 0 s2.heap → (∀ b ∈ fp, b < s2.heap.objs.size) →
      (∀ h' tk, (∀ b o, b ∉ wr → s2.heap.get? b = some o → h'.get? b = some o) → ∃ s3 : Shared, s3 = { s with heap := h', toks := tk } ∧ s3 = { s2 with heap := h', toks := tk } ∧ ∀ b o, s.heap.get? b = some o → h'.get? b = some o) → Q (.ref J) s2) :
    wpAny (model X.prog X.w) X.A.in1 (pyIter v) Q E s := by
  have hh := I.ok.hd hc
  cases d <;> simp only [seqD] at hs <;> first | (cases hs; done) | skip
  case tup ys =>
    cases hs
    obtain ⟨a, vs, rfl, t, q⟩ := r.tup
    cases rx
    obtain ⟨its, rv, p, hz⟩ := I.tuple (hW.sqT t)
    have hlt : a < s.heap.objs.size := by obtain ⟨o, e, _⟩ := p; exact Heap.lt_size e
    have hne : a ≠ s.heap.objs.size := Nat.ne_of_lt hlt
    have l1 := rv.length
    have l2 := q.length
    refine wpAny_pyIter_tuple (show s.heap.IsTuple a its.toArray from p) ?_
    have WK := Walks.tuple (prog := X.prog) (w := X.w) (A := X.A.in1) hh s.heap.objs.size a hne its.toArray
    simp only [List.size_toArray, List.getElem?_toArray] at WK
    refine h vs its s.heap.objs.size _ _ _ _ q rv (by omega) (by omega) WK ⟨⟨_, Heap.get?_push_size _ rfl, rfl, rfl⟩, ?_⟩ (fun b hb => ?_) fun h' tk hk => ⟨_, rfl, rfl, fun b o e => hk b o (fun hb => ?_) (Heap.get?_push_of_some _ e)⟩
    · obtain ⟨o, e, r⟩ := p
      exact ⟨o, Heap.get?_push_of_some _ e, r⟩
    · rw [Heap.size_push]
      simp only [List.mem_cons, List.not_mem_nil, or_false] at hb
      rcases hb with rfl | rfl
      · exact Nat.lt_succ_self _
      · exact Nat.lt_succ_of_lt hlt
    · simp only [List.mem_cons, List.not_mem_nil, or_false] at hb
      subst hb
      exact absurd (Heap.lt_size e) (Nat.lt_irrefl _)
  case lst ys =>
    cases hs
    obtain ⟨a, vs, rfl, t, q⟩ := r.lst
    cases rx
    obtain ⟨its, n, rv, l1, hz, e0⟩ := rd_obj I t
    have p : s.heap.IsList a its.toArray := ⟨_, e0, rfl, _, rfl⟩
    have hlt : a < s.heap.objs.size := Heap.lt_size e0
    have hne : a ≠ s.heap.objs.size := Nat.ne_of_lt hlt
    have l2 := q.length
    refine wpAny_pyIter_list p ?_
    have WK := Walks.list (prog := X.prog) (w := X.w) (A := X.A.in1) hh s.heap.objs.size a hne its.toArray
    simp only [List.size_toArray, List.getElem?_toArray] at WK
    refine h vs its s.heap.objs.size _ _ _ _ q rv (by omega) (by omega) WK ⟨⟨_, Heap.get?_push_size _ rfl, rfl, rfl⟩, p.push _⟩ (fun b hb => ?_) fun h' tk hk => ⟨_, rfl, rfl, fun b o e => hk b o (fun hb => ?_) (Heap.get?_push_of_some _ e)⟩
    · show b < (s.heap.push _).objs.size
      rw [Heap.size_push]
      simp only [List.mem_cons, List.not_mem_nil, or_false] at hb
      rcases hb with rfl | rfl
      · exact Nat.lt_succ_self _
      · exact Nat.lt_succ_of_lt hlt
    · simp only [List.mem_cons, List.not_mem_nil, or_false] at hb
      subst hb
      exact absurd (Heap.lt_size e) (Nat.lt_irrefl _)
theorem Vals.one {x : V} {us : List Value} (r : Vals [x] us) : ∃ u, us = [u] ∧ RelV x u := by
  cases r with
  | cons r t => cases t; exact ⟨_, rfl, r⟩

theorem blt_len : CallR X (.builtin "len") (rL X.K γ (blt .len)) := by
  intro pins s σ H xs us Q I r ⟨W, m, ds, p, hW, rs, hf, q⟩
  simp only [blt] at hf
  split at hf
  · cases hf
    obtain ⟨x, rfl, r1⟩ := rs.one
    obtain ⟨a, vs, rfl, t, r2⟩ := r1.tup
    rw [← r2.length] at q
    exact call_len_seq pins s σ H _ us Q I r ⟨a, vs, rfl, .inr (hW.sqT t), q.int hW⟩
  · cases hf
    obtain ⟨x, rfl, r1⟩ := rs.one
    obtain ⟨a, vs, rfl, t, r2⟩ := r1.lst
    rw [← r2.length] at q
    exact call_len_seq pins s σ H _ us Q I r ⟨a, vs, rfl, .inl (.inl t), q.int hW⟩
  · split at hf
    · rename_i hz
      cases hf
      obtain ⟨x, rfl, r1⟩ := rs.one
      obtain rfl := r1.str
      exact call_len_str pins s σ H _ us Q I r ⟨_, rfl, by rw [← line_eq]; exact hz, q.int hW⟩
    · cases hf
  · obtain ⟨x, rfl, r1⟩ := rs.one
    simp only [RepN, Rep] at r1
  · cases hf
theorem blt_abs : CallR X (.builtin "abs") (rL X.K γ (blt .abs)) := by
  intro pins s σ H xs us Q I r ⟨W, m, ds, p, hW, rs, hf, q⟩
  simp only [blt] at hf
  split at hf
  · cases hf
    obtain ⟨x, rfl, r1⟩ := rs.one
    obtain rfl := r1.int
    exact call_abs pins s σ H _ us Q I r ⟨_, rfl, q.int hW⟩
  · cases hf
theorem blt_int : CallR X (.type "int") (rL X.K γ (blt .int)) := by
  intro pins s σ H xs us Q I r ⟨W, m, ds, p, hW, rs, hf, q⟩
  simp only [blt] at hf
  split at hf
  · cases hf
    obtain ⟨x, rfl, r1⟩ := rs.one
    obtain rfl := r1.int
    exact call_int1 pins s σ H _ us Q I r (.inl ⟨_, rfl, q.int hW⟩)
  · cases hf
    obtain ⟨x, rfl, r1⟩ := rs.one
    obtain rfl := r1.bl
    exact call_int1 pins s σ H _ us Q I r (.inr ⟨_, rfl, q.int hW⟩)
  · cases hf
theorem blt_tuple : CallR X (.type "tuple") (rL X.K γ (blt .tuple)) := by
  intro pins s σ H xs us Q I r ⟨W, m, ds, p, hW, rs, hf, q⟩
  simp only [blt] at hf
  split at hf
  · cases hf
    obtain ⟨x, rfl, r1⟩ := rs.one
    obtain ⟨a, vs, rfl, t, r2⟩ := r1.tup
    exact call_tuple_of pins s σ H _ us Q I r ⟨a, vs, rfl, .inr ⟨hW.sqT t, q.old hW (by simpa only [RepN] using r1)⟩⟩
  · cases hf
    obtain ⟨x, rfl, r1⟩ := rs.one
    obtain ⟨a, vs, rfl, t, r2⟩ := r1.lst
    exact call_tuple_of pins s σ H _ us Q I r ⟨a, vs, rfl, .inl ⟨.inl t, q.tupN hW r2⟩⟩
  · cases hf
theorem blt_list : CallR X (.type "list") (rL X.K γ (blt .list)) := by
  intro pins s σ H xs us Q I r ⟨W, m, ds, p, hW, rs, hf, q⟩
  simp only [blt] at hf
  split at hf
  · cases hf
    obtain ⟨x, rfl, r1⟩ := rs.one
    obtain ⟨a, vs, rfl, t, r2⟩ := r1.tup
    exact call_list_of pins s σ H _ us Q I r ⟨a, vs, rfl, .inr (hW.sqT t), q.lstN hW r2⟩
  · cases hf
    obtain ⟨x, rfl, r1⟩ := rs.one
    obtain ⟨a, vs, rfl, t, r2⟩ := r1.lst
    exact call_list_of pins s σ H _ us Q I r ⟨a, vs, rfl, .inl (.inl t), q.lstN hW r2⟩
  · cases hf
theorem truth_scal {prog : Program} {w : World} {A : Around} {vs : List V} {its : List Value} (r : Vals vs its) (hb : ∀ v ∈ vs, (∃ b, v = .bl b) ∨ (∃ i, v = .int i) ∨ v = .non) :
    TruthOf prog w A (fun i v => its[i]? = some v) (fun i => (vs.map scaV).getD i false) := fun i v s Q E hv hq => by
  obtain ⟨hl, hv'⟩ := List.getElem?_eq_some_iff.mp hv
  have hl2 : i < vs.length := by rw [r.length]; exact hl
  obtain ⟨u, e1, ru⟩ := r.get (i := i) (x := vs[i]) (by simp [hl2])
  rw [hv] at e1; cases e1
  have hq' : Q (scaV vs[i]) s := by
    have : (vs.map scaV).getD i false = scaV vs[i] := by simp [List.getD_eq_getElem?_getD, hl2]
    show Q _ s
    rw [← this]; exact hq
  rcases hb _ (List.getElem_mem hl2) with ⟨b, e⟩ | ⟨j, e⟩ | e
  · rw [e] at ru hq'
    cases ru
    exact wpAny_truthy_bool hq'
  · rw [e] at ru hq'
    obtain ⟨t, rfl⟩ := ru
    exact PySem.P.truthy_int hq'
  · rw [e] at ru hq'
    cases ru
    exact truthy_none hq'
theorem blt_all (hc : X.calm = true) : CallR X (.builtin "all") (rL X.K γ (blt .all)) := by
  intro pins s σ H xs us Q I r ⟨W, m, ds, p, hW, rs, hf, q⟩
  simp only [blt] at hf
  split at hf
  · simp only [Option.bind_eq_some_iff, Option.map_eq_some_iff] at hf
    obtain ⟨xs', hs, bs, hb, rfl⟩ := hf
    obtain ⟨x, rfl, r1⟩ := rs.one
    obtain ⟨u, rfl, ru⟩ := Vals.one r
    refine call_all_walk (seq_walk I hc hW r1 hs ru fun vs its J fp wr St s2 q1 rv hl hz WK st hfp fin => ?_)
    obtain ⟨e1, e2⟩ := q1.boolsOf hb
    refine ⟨J, fp, wr, _, _, St, _, rfl, WK, st, truth_scal rv e2, fun h' tk hk => ?_⟩
    obtain ⟨s3, a1, a2, a3⟩ := fin h' tk hk
    rw [← a2, a1]
    refine ⟨.bl _, H, I.kept a3, ?_, q.bl hW⟩
    show Value.bool _ = Value.bool _
    rw [← rv.length, ← List.length_map (f := scaV), L2.all_range, e1]
  · cases hf
theorem blt_any (hc : X.calm = true) : CallR X (.builtin "any") (rL X.K γ (blt .any)) := by
  intro pins s σ H xs us Q I r ⟨W, m, ds, p, hW, rs, hf, q⟩
  simp only [blt] at hf
  split at hf
  · simp only [Option.bind_eq_some_iff, Option.map_eq_some_iff] at hf
    obtain ⟨xs', hs, bs, hb, rfl⟩ := hf
    obtain ⟨x, rfl, r1⟩ := rs.one
    obtain ⟨u, rfl, ru⟩ := Vals.one r
    refine call_any_walk (seq_walk I hc hW r1 hs ru fun vs its J fp wr St s2 q1 rv hl hz WK st hfp fin => ?_)
    obtain ⟨e1, e2⟩ := q1.boolsOf hb
    refine ⟨J, fp, wr, _, _, St, _, rfl, WK, st, truth_scal rv e2, fun h' tk hk => ?_⟩
    obtain ⟨s3, a1, a2, a3⟩ := fin h' tk hk
    rw [← a2, a1]
    refine ⟨.bl _, H, I.kept a3, ?_, q.bl hW⟩
    show Value.bool _ = Value.bool _
    rw [← rv.length, ← List.length_map (f := scaV), L2.any_range, e1]
  · cases hf
theorem preSum_getD (is : List Int) : ∀ j, j ≤ is.length → preSum (fun i => is.getD i 0) j = (is.take j).sum
  | 0, _ => by simp [preSum]
  | j + 1, h => by
    rw [preSum, preSum_getD is j (by omega), List.take_succ]
    have : is[j]? = some (is.getD j 0) := by rw [List.getD_eq_getElem?_getD]; simp [show j < is.length by omega]
    rw [this]; simp
theorem int_at {is : List Int} {its : List Value} (r : Vals (is.map V.int) its) {i : Nat} {v : Value} (h : its[i]? = some v) : ∃ t, v = .int (is.getD i 0) t := by
  obtain ⟨hl, hv⟩ := List.getElem?_eq_some_iff.mp h
  have hl2 : i < is.length := by have := r.length; simp at this; omega
  obtain ⟨u, e1, ru⟩ := r.get (i := i) (x := .int is[i]) (by simp [hl2])
  rw [h] at e1; cases e1
  obtain ⟨t, rfl⟩ := ru
  exact ⟨t, by simp [List.getD_eq_getElem?_getD, hl2]⟩
theorem blt_sum (hc : X.calm = true) : CallR X (.builtin "sum") (rL X.K γ (blt .sum)) := by
  intro pins s σ H xs us Q I r ⟨W, m, ds, p, hW, rs, hf, q⟩
  simp only [blt] at hf
  split at hf
  · simp only [Option.bind_eq_some_iff, Option.map_eq_some_iff] at hf
    obtain ⟨xs', hs, bs, hb, rfl⟩ := hf
    obtain ⟨x, rfl, r1⟩ := rs.one
    obtain ⟨u, rfl, ru⟩ := Vals.one r
    refine call_sum_walkG (seq_walk I hc hW r1 hs ru fun vs its J fp wr St s2 q1 rv hl hz WK st hfp fin => ?_)
    have ev := q1.intsOf hb
    subst ev
    refine ⟨J, fp, wr, _, _, St, fun i => bs.getD i 0, rfl, WK, st, hfp, fun i v h => int_at rv h, fun h' tk t' hk => ?_⟩
    obtain ⟨s3, a1, a2, a3⟩ := fin h' tk hk
    rw [← a2, a1]
    refine ⟨.int _, H, I.kept a3, ⟨t', ?_⟩, q.int hW⟩
    have e : its.length = bs.length := by rw [← rv.length]; simp
    rw [e, preSum_getD bs _ (Nat.le_refl _), List.take_length]
  · cases hf
theorem maxI_mem : ∀ (r : List Int) (m : Int), maxI m r ∈ m :: r ∧ ∀ y ∈ m :: r, y ≤ maxI m r
  | [], m => by simp [maxI]
  | x :: r, m => by
    obtain ⟨h1, h2⟩ := maxI_mem r (if m < x then x else m)
    simp only [maxI]
    refine ⟨?_, fun y hy => ?_⟩
    · rcases List.mem_cons.mp h1 with e | e
      · rw [e]; split <;> simp
      · simp [e]
    · have h3 := h2 (if m < x then x else m) (by simp)
      rcases List.mem_cons.mp hy with e | e
      · subst e
        generalize maxI (if y < x then x else y) r = M at h3 ⊢
        split at h3 <;> omega
      · rcases List.mem_cons.mp e with e | e
        · subst e
          generalize maxI (if m < y then y else m) r = M at h3 ⊢
          split at h3 <;> omega
        · exact h2 y (by simp [e])
theorem minI_mem : ∀ (r : List Int) (m : Int), minI m r ∈ m :: r ∧ ∀ y ∈ m :: r, minI m r ≤ y
  | [], m => by simp [minI]
  | x :: r, m => by
    obtain ⟨h1, h2⟩ := minI_mem r (if x < m then x else m)
    simp only [minI]
    refine ⟨?_, fun y hy => ?_⟩
    · rcases List.mem_cons.mp h1 with e | e
      · rw [e]; split <;> simp
      · simp [e]
    · have h3 := h2 (if x < m then x else m) (by simp)
      rcases List.mem_cons.mp hy with e | e
      · subst e
        generalize minI (if x < y then x else y) r = M at h3 ⊢
        split at h3 <;> omega
      · rcases List.mem_cons.mp e with e | e
        · subst e
          generalize minI (if y < m then y else m) r = M at h3 ⊢
          split at h3 <;> omega
        · exact h2 y (by simp [e])
theorem getD_mem' {is : List Int} {j : Nat} (h : j < is.length) : is.getD j 0 ∈ is := by
  rw [List.getD_eq_getElem?_getD]; simp [h]
theorem mem_getD' {is : List Int} {y : Int} (h : y ∈ is) : ∃ j, j < is.length ∧ is.getD j 0 = y := by
  obtain ⟨j, hj, e⟩ := List.getElem_of_mem h
  exact ⟨j, hj, by rw [List.getD_eq_getElem?_getD]; simp [hj, e]⟩
theorem blt_max (hc : X.calm = true) : CallR X (.builtin "max") (rL X.K γ (blt .max)) := by
  intro pins s σ H xs us Q I r ⟨W, m, ds, p, hW, rs, hf, q⟩
  simp only [blt] at hf
  split at hf
  · cases hf
    obtain ⟨x, y, rfl, r1, r2⟩ := rs.two
    obtain rfl := r1.int; obtain rfl := r2.int
    exact call_max2 hc pins s σ H _ us Q I r ⟨_, _, rfl, q.int hW⟩
  · simp only [Option.bind_eq_some_iff] at hf
    obtain ⟨xs', hs, bs, hb, hf⟩ := hf
    cases bs with
    | nil => cases hf
    | cons b bs =>
      cases hf
      obtain ⟨x, rfl, r1⟩ := rs.one
      obtain ⟨u, rfl, ru⟩ := Vals.one r
      refine call_max_walk (seq_walk I hc hW r1 hs ru fun vs its J fp wr St s2 q1 rv hl hz WK st hfp fin => ?_)
      have ev := q1.intsOf hb
      subst ev
      have e : its.length = (b :: bs).length := by rw [← rv.length]; simp
      refine ⟨J, fp, wr, _, _, St, fun i j => decide ((b :: bs).getD i 0 > (b :: bs).getD j 0), rfl, WK, st, hfp, by simp only [e, List.length_cons]; omega, fun i j vi vj s Q E hi hj hQ => ?_, fun v h' tk hP hk => ?_⟩
      · obtain ⟨t, rfl⟩ := int_at rv hi
        obtain ⟨t', rfl⟩ := int_at rv hj
        exact (gt_int hQ : wpAny _ _ (compareOp .Gt _ _) _ _ _)
      · obtain ⟨s3, a1, a2, a3⟩ := fin h' tk hk
        obtain ⟨t, rfl⟩ := int_at rv hP
        rw [← a2, a1]
        refine ⟨.int (maxI b bs), H, I.kept a3, ⟨t, ?_⟩, q.int hW⟩
        obtain ⟨k1, k2⟩ := argBest_gt (fun i => (b :: bs).getD i 0) (its.length - 1)
        obtain ⟨z1, z2⟩ := maxI_mem bs b
        have k3 := Nat.lt_of_le_of_lt k1 (show its.length - 1 < (b :: bs).length by rw [e]; simp)
        congr 1
        refine Int.le_antisymm (z2 _ (getD_mem' k3)) ?_
        obtain ⟨j, hj, ej⟩ := mem_getD' z1
        rw [← ej]
        exact k2 j (by omega)
  · cases hf
theorem blt_min (hc : X.calm = true) : CallR X (.builtin "min") (rL X.K γ (blt .min)) := by
  intro pins s σ H xs us Q I r ⟨W, m, ds, p, hW, rs, hf, q⟩
  simp only [blt] at hf
  split at hf
  · cases hf
    obtain ⟨x, y, rfl, r1, r2⟩ := rs.two
    obtain rfl := r1.int; obtain rfl := r2.int
    exact call_min2 hc pins s σ H _ us Q I r ⟨_, _, rfl, q.int hW⟩
  · simp only [Option.bind_eq_some_iff] at hf
    obtain ⟨xs', hs, bs, hb, hf⟩ := hf
    cases bs with
    | nil => cases hf
    | cons b bs =>
      cases hf
      obtain ⟨x, rfl, r1⟩ := rs.one
      obtain ⟨u, rfl, ru⟩ := Vals.one r
      refine call_min_walk (seq_walk I hc hW r1 hs ru fun vs its J fp wr St s2 q1 rv hl hz WK st hfp fin => ?_)
      have ev := q1.intsOf hb
      subst ev
      have e : its.length = (b :: bs).length := by rw [← rv.length]; simp
      refine ⟨J, fp, wr, _, _, St, fun i j => decide ((b :: bs).getD i 0 < (b :: bs).getD j 0), rfl, WK, st, hfp, by simp only [e, List.length_cons]; omega, fun i j vi vj s Q E hi hj hQ => ?_, fun v h' tk hP hk => ?_⟩
      · obtain ⟨t, rfl⟩ := int_at rv hi
        obtain ⟨t', rfl⟩ := int_at rv hj
        exact (lt_int hQ : wpAny _ _ (compareOp .Lt _ _) _ _ _)
      · obtain ⟨s3, a1, a2, a3⟩ := fin h' tk hk
        obtain ⟨t, rfl⟩ := int_at rv hP
        rw [← a2, a1]
        refine ⟨.int (minI b bs), H, I.kept a3, ⟨t, ?_⟩, q.int hW⟩
        obtain ⟨k1, k2⟩ := argBest_lt (fun i => (b :: bs).getD i 0) (its.length - 1)
        obtain ⟨z1, z2⟩ := minI_mem bs b
        have k3 := Nat.lt_of_le_of_lt k1 (show its.length - 1 < (b :: bs).length by rw [e]; simp)
        congr 1
        refine Int.le_antisymm ?_ (z2 _ (getD_mem' k3))
        obtain ⟨j, hj, ej⟩ := mem_getD' z1
        rw [← ej]
        exact k2 j (by omega)
  · cases hf
theorem blt_repr (hg : X.A.guards = some []) (hu : X.A.units + 64 < cLine) : CallR X (.builtin "repr") (rL X.K γ (blt .repr)) := by
  intro pins s σ H xs us Q I r ⟨W, m, ds, p, hW, rs, hf, q⟩
  simp only [blt] at hf
  split at hf
  · rename_i d
    split at hf
    · rename_i ho
      cases hf
      simp only [reprOk, Bool.and_eq_true, decide_eq_true_eq] at ho
      obtain ⟨⟨⟨hp, hd⟩, hs⟩, hz⟩ := ho
      obtain ⟨x, rfl, r1⟩ := rs.one
      obtain ⟨u, rfl, ru⟩ := Vals.one r
      have hz2 : (toPy d).shown.length ≤ sizeLine := by rw [sizeLine_eq]; have : (toPy d).shown.length ≤ 1000000 := hz; omega
      have big : ∀ a, x = .ref a → wpAny (model X.prog X.w) X.A (call (.builtin "repr") [u]) (EP X pins σ Q) X.xe s := fun a e => by
        subst e
        cases ru
        obtain ⟨as, rr⟩ := Dp.reads I _ _ _ (r1.dp hW hp) (show L2.RelV (.ref a) (.ref a) from rfl)
        refine repr_of_reads' rr hs (PyData.noDict_hsm (PyData.hasDict_of_canLay _ (lay_of d hp))) hg (by rw [depth_of]; omega) (fun _ _ e => e) (fun h' t tk hk => ?_) hz2
        exact ⟨.str _, H, I.kept hk, ⟨t, rfl⟩, q.str hW⟩
      have bare : X.A.units + 1 < cLine := by omega
      cases d with
      | non => obtain rfl := r1.non; cases ru; exact PySem.P.repr_of_none ⟨.str _, H, I.tok _, ⟨_, rfl⟩, q.str hW⟩
      | bl b => obtain rfl := r1.bl; cases ru; exact PySem.P.repr_of_bool ⟨.str _, H, I.tok _, ⟨_, rfl⟩, q.str hW⟩
      | int i =>
        obtain rfl := r1.int; obtain ⟨t, rfl⟩ := ru
        have hs' : decide (i.natAbs.log2 < 1920) = true := hs
        exact PySem.P.repr_of_int (of_decide_eq_true hs') ⟨.str _, H, I.tok _, ⟨_, rfl⟩, q.str hW⟩
      | str z =>
        obtain rfl := r1.str; obtain ⟨t, rfl⟩ := ru
        exact PySem.P.repr_of_str ⟨.str _, H, I.tok _, ⟨_, rfl⟩, q.str hW⟩ hz2
      | tup ys => obtain ⟨a, _, e, _⟩ := r1.tup; exact big a e
      | lst ys => obtain ⟨a, _, e, _⟩ := r1.lst; exact big a e
      | _ => simp [D.plain] at hp
    · cases hf
  · cases hf
end
end PY

set_option Elab.async false
set_option linter.all false
set_option maxRecDepth 100000
/-! PyF -/
namespace PY
open PySem PySem.Spec PyProof.Rows L2

def RepTs (K : PySem.W.Frag) (γ : Nm) (W : Wd) : List T → List V → Prop
  | [], vs => vs = []
  | t :: ts, vs => ∃ v r, vs = v :: r ∧ RepT K γ W t v ∧ RepTs K γ W ts r
/-- an error that is raised -/
def RepX (K : PySem.W.Frag) (γ : Nm) (W : Wd) (e : D) (cls : Value) (da : Option Addr) : Prop :=
  ∃ c d C a' v, e = .exc c d ∧ cls = .ref C ∧ da = some a' ∧ γ.cad c = some C ∧ W.z a' = some (.xd [(("value" : Str), v)]) ∧ Rep K γ W d v
def OutE (K : PySem.W.Frag) (γ : Nm) (W : Wd) (Wx : WX) (σ : L2.St) (r : R) (Q : VK) : Prop :=
  match r with
  | .ok t fr m => ∀ v H' W', W.le W' → WOk K γ W' m H' → RepR K γ W' H' t fr v → Q v H'
  | .ex e m => ∀ cls da H' W', W.le W' → WOk K γ W' m H' → RepX K γ W' e cls da → Wx cls da σ H'
def tE (K : PySem.W.Frag) (γ : Nm) (c : Cz) (e : E) (Wx : WX) : TE := fun σ H Q =>
  ∃ W ρ m r, WOk K γ W m H ∧ RhoOk K γ W ρ σ ∧ ev c e ρ m = some r ∧ OutE K γ W Wx σ r Q
/-- the expression does what e tells -/
def SE (X : L2.Cx) (γ : Nm) (c : Cz) (x : Expr) (e : E) : Prop := ∀ Wx : WX, Takes X Wx → PE X x (tE X.K γ c e Wx)
def OutL (K : PySem.W.Frag) (γ : Nm) (W : Wd) (Wx : WX) (σ : L2.St) (r : RL) (Q : List V → Hp → Prop) : Prop :=
  match r with
  | .ok ts m => ∀ vs H' W', W.le W' → WOk K γ W' m H' → RepTs K γ W' ts vs → Q vs H'
  | .ex e m => ∀ cls da H' W', W.le W' → WOk K γ W' m H' → RepX K γ W' e cls da → Wx cls da σ H'
def tEL (K : PySem.W.Frag) (γ : Nm) (c : Cz) (es : List E) (Wx : WX) : TA := fun σ H Q =>
  ∃ W ρ m r, WOk K γ W m H ∧ RhoOk K γ W ρ σ ∧ evL c es ρ m = some r ∧ OutL K γ W Wx σ r Q
def SL (X : L2.Cx) (γ : Nm) (c : Cz) (xs : List Expr) (es : List E) : Prop := ∀ Wx : WX, Takes X Wx → PA X xs (tEL X.K γ c es Wx)
def OutT (K : PySem.W.Frag) (γ : Nm) (W : Wd) (Wx : WX) (σ : L2.St) (r : R) (Q : Bool → Hp → Prop) : Prop :=
  match r with
  | .ok t fr m => ∃ d b, rd m t = some d ∧ truth d = some b ∧ ∀ H' W', W.le W' → WOk K γ W' m H' → Q b H'
  | .ex e m => ∀ cls da H' W', W.le W' → WOk K γ W' m H' → RepX K γ W' e cls da → Wx cls da σ H'
def tT (K : PySem.W.Frag) (γ : Nm) (c : Cz) (e : E) (Wx : WX) : TT := fun σ H Q =>
  ∃ W ρ m r, WOk K γ W m H ∧ RhoOk K γ W ρ σ ∧ ev c e ρ m = some r ∧ OutT K γ W Wx σ r Q
def ST (X : L2.Cx) (γ : Nm) (c : Cz) (x : Expr) (e : E) : Prop := ∀ Wx : WX, Takes X Wx → PT X x (tT X.K γ c e Wx)

section
variable {K : PySem.W.Frag} {γ : Nm} {W W1 : Wd} {m : Mu} {H : Hp} {ρ : Rho} {σ : L2.St} {Wx : WX} {r : R} {Q : VK} {c : Cz}
theorem OutE.mono (h : OutE K γ W Wx σ r Q) (l : W.le W1) : OutE K γ W1 Wx σ r Q := by
  cases r with
  | ok t fr m => exact fun v H' W' l' => h v H' W' (l.trans l')
  | ex e m => exact fun cls da H' W' l' => h cls da H' W' (l.trans l')
theorem OutL.mono {r : RL} {Q : List V → Hp → Prop} (h : OutL K γ W Wx σ r Q) (l : W.le W1) : OutL K γ W1 Wx σ r Q := by
  cases r with
  | ok t m => exact fun v H' W' l' => h v H' W' (l.trans l')
  | ex e m => exact fun cls da H' W' l' => h cls da H' W' (l.trans l')
theorem OutT.mono {Q : Bool → Hp → Prop} (h : OutT K γ W Wx σ r Q) (l : W.le W1) : OutT K γ W1 Wx σ r Q := by
  cases r with
  | ok t fr m => obtain ⟨d, b, e1, e2, q⟩ := h; exact ⟨d, b, e1, e2, fun H' W' l' => q H' W' (l.trans l')⟩
  | ex e m => exact fun cls da H' W' l' => h cls da H' W' (l.trans l')
/-- the first part is reckoned, then what follows -/
theorem tE_step {a : E} {k : T → Mu → Option R} (hW : WOk K γ W m H) (hr : RhoOk K γ W ρ σ) (h : bnd (ev c a ρ m) k = some r)
    {R : V → Hp → Prop} (hx : ∀ e m1, r = .ex e m1 → ∀ cls da H' W', W.le W' → WOk K γ W' m1 H' → RepX K γ W' e cls da → Wx cls da σ H')
    (go : ∀ x H1 W1 t m1, W.le W1 → WOk K γ W1 m1 H1 → RhoOk K γ W1 ρ σ → RepT K γ W1 t x → k t m1 = some r → R x H1) : tE K γ c a Wx σ H R := by
  cases he : ev c a ρ m with
  | none => rw [he] at h; cases h
  | some r0 =>
    rw [he] at h
    refine ⟨W, ρ, m, r0, hW, hr, he, ?_⟩
    cases r0 with
    | ok t fr m1 =>
      intro v H' W' l w q
      obtain ⟨W2, l2, _, w2, q2⟩ := freeze w q
      exact go v H' W2 t m1 (l.trans l2) w2 (hr.mono (l.trans l2)) q2 h
    | ex e m1 =>
      have h' : some (PY.R.ex e m1) = some r := h
      cases h'
      exact hx e m1 rfl
theorem tE_bnd {a : E} {k : T → Mu → Option R} (hW : WOk K γ W m H) (hr : RhoOk K γ W ρ σ) (h : bnd (ev c a ρ m) k = some r) (out : OutE K γ W Wx σ r Q)
    {R : V → Hp → Prop} (go : ∀ x H1 W1 t m1, W.le W1 → WOk K γ W1 m1 H1 → RhoOk K γ W1 ρ σ → RepT K γ W1 t x → k t m1 = some r → OutE K γ W1 Wx σ r Q → R x H1) : tE K γ c a Wx σ H R :=
  tE_step hW hr h (fun e m1 e1 => by subst e1; exact out) fun x H1 W1 t m1 l w r' q k' => go x H1 W1 t m1 l w r' q k' (out.mono l)
theorem tE_bndT {a : E} {k : T → Mu → Option R} {Q : Bool → Hp → Prop} (hW : WOk K γ W m H) (hr : RhoOk K γ W ρ σ) (h : bnd (ev c a ρ m) k = some r) (out : OutT K γ W Wx σ r Q)
    {R : V → Hp → Prop} (go : ∀ x H1 W1 t m1, W.le W1 → WOk K γ W1 m1 H1 → RhoOk K γ W1 ρ σ → RepT K γ W1 t x → k t m1 = some r → OutT K γ W1 Wx σ r Q → R x H1) : tE K γ c a Wx σ H R :=
  tE_step hW hr h (fun e m1 e1 => by subst e1; exact out) fun x H1 W1 t m1 l w r' q k' => go x H1 W1 t m1 l w r' q k' (out.mono l)
/-- a test is reckoned, then what follows -/
theorem tT_step {a : E} {k : T → Mu → Option R} (hW : WOk K γ W m H) (hr : RhoOk K γ W ρ σ) (h : bnd (ev c a ρ m) k = some r)
    {R : Bool → Hp → Prop} (hx : ∀ e m1, r = .ex e m1 → ∀ cls da H' W', W.le W' → WOk K γ W' m1 H' → RepX K γ W' e cls da → Wx cls da σ H')
    (tr : ∀ t m1, k t m1 = some r → ∃ d b, rd m1 t = some d ∧ truth d = some b)
    (go : ∀ b H1 W1 t d m1, W.le W1 → WOk K γ W1 m1 H1 → RhoOk K γ W1 ρ σ → rd m1 t = some d → truth d = some b → k t m1 = some r → R b H1) : tT K γ c a Wx σ H R := by
  cases he : ev c a ρ m with
  | none => rw [he] at h; cases h
  | some r0 =>
    rw [he] at h
    refine ⟨W, ρ, m, r0, hW, hr, he, ?_⟩
    cases r0 with
    | ok t fr m1 =>
      obtain ⟨d, b, e1, e2⟩ := tr t m1 h
      exact ⟨d, b, e1, e2, fun H' W' l w => go b H' W' t d m1 l w (hr.mono l) e1 e2 h⟩
    | ex e m1 =>
      have h' : some (PY.R.ex e m1) = some r := h
      cases h'
      exact hx e m1 rfl
end
theorem _root_.L2.PE.weak {X : L2.Cx} {x : Expr} {t t' : TE} (h : PE X x t) (i : ∀ σ H Q, t' σ H Q → t σ H Q) : PE X x t' := ⟨fun pins s σ H Q I q => h.run pins s σ H Q I (i σ H Q q)⟩
theorem _root_.L2.PT.weak {X : L2.Cx} {x : Expr} {t t' : TT} (h : PT X x t) (i : ∀ σ H Q, t' σ H Q → t σ H Q) : PT X x t' := ⟨fun pins s σ H Q I q => h.run pins s σ H Q I (i σ H Q q)⟩
theorem _root_.L2.PA.weak {X : L2.Cx} {x : List Expr} {t t' : TA} (h : PA X x t) (i : ∀ σ H Q, t' σ H Q → t σ H Q) : PA X x t' := ⟨fun pos pins s σ H Q I q => h.run pos pins s σ H Q I (i σ H Q q)⟩

section
variable {X : L2.Cx} {γ : Nm} {c : Cz} {x y z : Expr} {a b e : E} {pos : Pos}
theorem giv_get {K : PySem.W.Frag} {W : Wd} {Wx : WX} {σ : L2.St} {Q : VK} {p : D × Bool} {m : Mu} {r : R} (h : giv (some p) m = some r) (out : OutE K γ W Wx σ r Q) : Get K γ W m p Q := by
  have h' : some (R.ok (.val p.1) p.2 m) = some r := h
  cases h'
  exact fun v H' W' l _ w q => out v H' W' l w q
theorem vl_get {K : PySem.W.Frag} {W : Wd} {Wx : WX} {σ : L2.St} {Q : VK} {d : D} {m : Mu} {r : R} (h : vl d m = some r) (out : OutE K γ W Wx σ r Q) : Get K γ W m (d, false) Q := by
  have h' : some (R.ok (.val d) false m) = some r := h
  cases h'
  exact fun v H' W' l _ w q => out v H' W' l w q

theorem se_var {i : Nat} {n : Str} (hN : X.N[i]? = some n) (hv : Vis X.env.scope n) (hd : (n == ("__debug__" : Str)) = false) (hcd : (n == ("__classdict__" : Str)) = false) : SE X γ c (.Name n pos) (.var i) := fun Wx _ => by
  refine (pe_var hN hv hd hcd).weak fun σ H Q ⟨W, ρ, m, r, hW, hr, h, out⟩ => ?_
  simp only [ev, Option.map_eq_some_iff, getV, Option.bind_eq_some_iff, id] at h
  obtain ⟨t, ⟨_, h1, rfl⟩, rfl⟩ := h
  obtain ⟨v, e, q⟩ := hr.get i t h1
  exact ⟨v, e, out v H W (Wd.le_refl W) hW q⟩
theorem se_int {i : Int} {j} : SE X γ c (.Constant (.int i) j pos) (.con (.int i)) := fun Wx _ => by
  refine pe_int.weak fun σ H Q ⟨W, ρ, m, r, hW, hr, h, out⟩ => ?_
  exact (vl_get (by simpa only [ev] using h) out).int hW
theorem se_bl {i : Bool} {j} : SE X γ c (.Constant (.bool i) j pos) (.con (.bl i)) := fun Wx _ => by
  refine pe_bl.weak fun σ H Q ⟨W, ρ, m, r, hW, hr, h, out⟩ => ?_
  exact (vl_get (by simpa only [ev] using h) out).bl hW
theorem se_str {i : Str} {j} : SE X γ c (.Constant (.str i) j pos) (.con (.str i)) := fun Wx _ => by
  refine pe_str.weak fun σ H Q ⟨W, ρ, m, r, hW, hr, h, out⟩ => ?_
  exact (vl_get (by simpa only [ev] using h) out).str hW
theorem se_non {j} : SE X γ c (.Constant .none j pos) (.con .non) := fun Wx _ => by
  refine pe_non.weak fun σ H Q ⟨W, ρ, m, r, hW, hr, h, out⟩ => ?_
  exact (vl_get (by simpa only [ev] using h) out).old hW (by simp [Rep])
/-- a constant of the module -/
structure GlobAt (X : L2.Cx) (γ : Nm) (n : Str) (d : D) : Prop where
  at_ : ∃ u v, X.mg n = some u ∧ RelV v u ∧ ∀ W, Rep X.K γ W d v
theorem se_glo {n : Str} (hg : Gl X n) (hx : ∀ d, c.g.glob n = some d → GlobAt X γ n d) (hn : (c.g.glob n).isSome = true) (hd : (n == ("__debug__" : Str)) = false) : SE X γ c (.Name n pos) (.glo n) := fun Wx _ => by
  obtain ⟨d, hd'⟩ := Option.isSome_iff_exists.mp hn
  obtain ⟨u, v, hm, rv, rep⟩ := (hx d hd').at_
  refine (pe_glob (pos := pos) hg hm rv hd).weak fun σ H Q ⟨W, ρ, m, r, hW, hr, h, out⟩ => ?_
  simp only [ev, hd', Option.bind_some] at h
  exact (vl_get h out).old hW (rep W)

theorem se_bin {op : Operator} (ha : SE X γ c x a) (hb : SE X γ c y b) : SE X γ c (.BinOp x op y pos) (.bin op a b) := fun Wx tk => by
  refine (pe_op (pos := pos) (bop_ok (γ := γ) op) (ha Wx tk) (hb Wx tk)).weak fun σ H Q ⟨W, ρ, m, r, hW, hr, h, out⟩ => ?_
  simp only [ev] at h
  refine tE_bnd hW hr h out fun u H1 W1 t m1 l1 w1 r1 q1 h out => ?_
  refine tE_bnd w1 r1 h out fun v H2 W2 t2 m2 l2 w2 r2 q2 h out => ?_
  simp only [Option.bind_eq_some_iff] at h
  obtain ⟨d1, e1, d2, e2, h⟩ := h
  cases hp : bop op d1 d2 with
  | none => rw [hp] at h; cases h
  | some p =>
    rw [hp] at h
    exact ⟨W2, m2, d1, d2, p, w2, w2.rd (q1.mono l2) e1, w2.rd q2 e2, hp, giv_get h out⟩
theorem se_neg (ha : SE X γ c x a) : SE X γ c (.UnaryOp .USub x pos) (.neg a) := fun Wx tk => by
  refine (pe_un (pos := pos) (neg_ok (γ := γ)) (ha Wx tk)).weak fun σ H Q ⟨W, ρ, m, r, hW, hr, h, out⟩ => ?_
  simp only [ev] at h
  refine tE_bnd hW hr h out fun u H1 W1 t m1 l1 w1 r1 q1 h out => ?_
  simp only [Option.bind_eq_some_iff] at h
  obtain ⟨d1, e1, d2, e2, h⟩ := h
  exact ⟨W1, m1, d1, d2, w1, w1.rd q1 e1, e2, vl_get h out⟩
theorem se_not (ha : SE X γ c x a) : SE X γ c (.UnaryOp .Not x pos) (.not a) := fun Wx tk => by
  refine (pe_notT (pos := pos) (ha Wx tk)).weak fun σ H Q ⟨W, ρ, m, r, hW, hr, h, out⟩ => ?_
  simp only [ev] at h
  refine tE_bnd hW hr h out fun u H1 W1 t m1 l1 w1 r1 q1 h out => ?_
  simp only [Option.bind_eq_some_iff] at h
  obtain ⟨d1, e1, k, e2, h⟩ := h
  exact ⟨k, truth_V w1 (w1.rd q1 e1) e2, (vl_get h out).bl w1⟩
theorem se_and {rest : List Expr} (ha : SE X γ c x a) (hb : SE X γ c (.BoolOp .And (y :: rest) pos) b) : SE X γ c (.BoolOp .And (x :: y :: rest) pos) (.and a b) := fun Wx tk => by
  refine (pe_andT (ha Wx tk) (hb Wx tk)).weak fun σ H Q ⟨W, ρ, m, r, hW, hr, h, out⟩ => ?_
  simp only [ev] at h
  refine tE_bnd hW hr h out fun u H1 W1 t m1 l1 w1 r1 q1 h out => ?_
  simp only [Option.bind_eq_some_iff] at h
  obtain ⟨d1, e1, k, e2, h⟩ := h
  refine ⟨k, truth_V w1 (w1.rd q1 e1) e2, ?_⟩
  cases k with
  | true => exact ⟨W1, ρ, m1, r, w1, r1, h, out⟩
  | false =>
    have h' : some (R.ok t false m1) = some r := h
    cases h'
    exact out u H1 W1 (Wd.le_refl W1) w1 q1
theorem se_or {rest : List Expr} (ha : SE X γ c x a) (hb : SE X γ c (.BoolOp .Or (y :: rest) pos) b) : SE X γ c (.BoolOp .Or (x :: y :: rest) pos) (.or a b) := fun Wx tk => by
  refine (pe_orT (ha Wx tk) (hb Wx tk)).weak fun σ H Q ⟨W, ρ, m, r, hW, hr, h, out⟩ => ?_
  simp only [ev] at h
  refine tE_bnd hW hr h out fun u H1 W1 t m1 l1 w1 r1 q1 h out => ?_
  simp only [Option.bind_eq_some_iff] at h
  obtain ⟨d1, e1, k, e2, h⟩ := h
  refine ⟨k, truth_V w1 (w1.rd q1 e1) e2, ?_⟩
  cases k with
  | false => exact ⟨W1, ρ, m1, r, w1, r1, h, out⟩
  | true =>
    have h' : some (R.ok t false m1) = some r := h
    cases h'
    exact out u H1 W1 (Wd.le_refl W1) w1 q1
theorem se_one {op : PySem.BoolOp} (ha : SE X γ c x a) : SE X γ c (.BoolOp op [x] pos) a := fun Wx tk => pe_one (ha Wx tk)
theorem se_ife (hc : ST X γ c z e) (ha : SE X γ c x a) (hb : SE X γ c y b) : SE X γ c (.IfExp z x y pos) (.ife e a b) := fun Wx tk => by
  refine (pe_ifExp (pos := pos) (hc Wx tk) (ha Wx tk) (hb Wx tk)).weak fun σ H Q ⟨W, ρ, m, r, hW, hr, h, out⟩ => ?_
  simp only [ev] at h
  refine tT_step hW hr h (fun e m1 e1 => by subst e1; exact out) (fun t m1 h => ?_) fun k H1 W1 t d m1 l1 w1 r1 e1 e2 h => ?_
  · simp only [Option.bind_eq_some_iff] at h
    obtain ⟨d1, e1, k, e2, h⟩ := h
    exact ⟨d1, k, e1, e2⟩
  · simp only [e1, e2, Option.bind_some] at h
    cases k with
    | true => exact ⟨W1, ρ, m1, r, w1, r1, h, out.mono l1⟩
    | false => exact ⟨W1, ρ, m1, r, w1, r1, h, out.mono l1⟩
theorem se_cmp (hu : X.A.units + 64 < cLine) {op : CmpOp} (ha : SE X γ c x a) (hb : SE X γ c y b) (hm : behindInMarks op y = false) : SE X γ c (.Compare x [op] [y] pos) (.cmp op a b) := fun Wx tk => by
  refine (pe_cmpR (pos := pos) (cop_ok (γ := γ) hu op) (ha Wx tk) (hb Wx tk) hm).weak fun σ H Q ⟨W, ρ, m, r, hW, hr, h, out⟩ => ?_
  simp only [ev] at h
  refine tE_bnd hW hr h out fun u H1 W1 t m1 l1 w1 r1 q1 h out => ?_
  refine tE_bnd w1 r1 h out fun v H2 W2 t2 m2 l2 w2 r2 q2 h out => ?_
  simp only [Option.bind_eq_some_iff] at h
  obtain ⟨d1, e1, d2, e2, k, e3, h⟩ := h
  exact ⟨W2, m2, d1, d2, k, w2, w2.rd (q1.mono l2) e1, w2.rd q2 e2, e3, (vl_get h out).bl w2⟩
theorem se_chn (hu : X.A.units + 64 < cLine) {op op' : CmpOp} (ha : SE X γ c x a) (hb : SE X γ c y b) (he : SE X γ c z e) (hm : lastMarks [op, op'] [y, z] = false) : SE X γ c (.Compare x [op, op'] [y, z] pos) (.chn op op' a b e) := fun Wx tk => by
  refine (pe_chain (pos := pos) (cop_ok (γ := γ) hu op) (cop_ok (γ := γ) hu op') (ha Wx tk) (hb Wx tk) (he Wx tk) hm).weak fun σ H Q ⟨W, ρ, m, r, hW, hr, h, out⟩ => ?_
  simp only [ev] at h
  refine tE_bnd hW hr h out fun u H1 W1 t m1 l1 w1 r1 q1 h out => ?_
  refine tE_bnd w1 r1 h out fun v H2 W2 t2 m2 l2 w2 r2 q2 h out => ?_
  simp only [Option.bind_eq_some_iff] at h
  obtain ⟨d1, e1, d2, e2, k, e3, h⟩ := h
  refine ⟨W2, m2, d1, d2, k, w2, w2.rd (q1.mono l2) e1, w2.rd q2 e2, e3, k, rfl, ?_⟩
  cases k with
  | false => exact (vl_get h out).bl w2
  | true =>
    have h := h
    rw [if_pos rfl] at h ⊢
    refine tE_bnd w2 r2 h out fun w H3 W3 t3 m3 l3 w3 r3 q3 h out => ?_
    simp only [Option.bind_eq_some_iff] at h
    obtain ⟨d4, e4, d5, e5, k2, e6, h⟩ := h
    exact ⟨W3, m3, d4, d5, k2, w3, w3.rd (q2.mono l3) e4, w3.rd q3 e5, e6, (vl_get h out).bl w3⟩

/-! PyF -/
theorem sl_nil : SL X γ c [] [] := fun Wx _ => by
  refine pa_nil.weak fun σ H Q ⟨W, ρ, m, r, hW, hr, h, out⟩ => ?_
  simp only [evL, Option.some.injEq] at h
  subst h
  exact out [] H W (Wd.le_refl W) hW rfl
theorem sl_cons {xs : List Expr} {es : List E} (ha : SE X γ c x a) (hb : SL X γ c xs es) (hs : starEach (x :: xs) X.env = (false, eval x X.env) :: starEach xs X.env) : SL X γ c (x :: xs) (a :: es) := fun Wx tk => by
  refine (pa_cons (ha Wx tk) (hb Wx tk) hs).weak fun σ H Q ⟨W, ρ, m, r, hW, hr, h, out⟩ => ?_
  simp only [evL] at h
  cases he : ev c a ρ m with
  | none => rw [he] at h; cases h
  | some r0 =>
    rw [he] at h
    refine ⟨W, ρ, m, r0, hW, hr, he, ?_⟩
    cases r0 with
    | ex e m1 =>
      have h' : some (RL.ex e m1) = some r := h
      cases h'
      exact out
    | ok t fr m1 =>
      intro v H' W' l w q
      obtain ⟨W2, l2, _, w2, q2⟩ := freeze w q
      have h : (match evL c es ρ m1 with
        | none => none
        | some (.ex e m2) => some (.ex e m2)
        | some (.ok ts m2) => some (RL.ok (t :: ts) m2)) = some r := h
      cases hl : evL c es ρ m1 with
      | none => rw [hl] at h; cases h
      | some r1 =>
        rw [hl] at h
        refine ⟨W2, ρ, m1, r1, w2, hr.mono (l.trans l2), hl, ?_⟩
        cases r1 with
        | ex e m2 =>
          have h' : some (RL.ex e m2) = some r := h
          cases h'
          exact out.mono (l.trans l2)
        | ok ts m2 =>
          have h' : some (RL.ok (t :: ts) m2) = some r := h
          cases h'
          exact fun vs H'' W'' l3 w3 q3 => out (v :: vs) H'' W'' ((l.trans l2).trans l3) w3 ⟨v, vs, rfl, q2.mono l3, q3⟩
section
variable {K : PySem.W.Frag} {W W1 : Wd} {m : Mu} {H : Hp} {ρ : Rho} {σ : L2.St} {Wx : WX} {r : R} {Q : VK}
theorem tEL_bnd {es : List E} {k : List T → Mu → Option R} (hW : WOk K γ W m H) (hr : RhoOk K γ W ρ σ) (h : bndL (evL c es ρ m) k = some r) (out : OutE K γ W Wx σ r Q)
    {R : List V → Hp → Prop} (go : ∀ vs H1 W1 ts m1, W.le W1 → WOk K γ W1 m1 H1 → RhoOk K γ W1 ρ σ → RepTs K γ W1 ts vs → k ts m1 = some r → OutE K γ W1 Wx σ r Q → R vs H1) : tEL K γ c es Wx σ H R := by
  cases he : evL c es ρ m with
  | none => rw [he] at h; cases h
  | some r0 =>
    rw [he] at h
    refine ⟨W, ρ, m, r0, hW, hr, he, ?_⟩
    cases r0 with
    | ok ts m1 => exact fun vs H' W' l w q => go vs H' W' ts m1 l w (hr.mono l) q h (out.mono l)
    | ex e m1 =>
      have h' : some (PY.R.ex e m1) = some r := h
      cases h'
      exact out
theorem RepTs.rds (h : WOk K γ W m H) : ∀ {ts : List T} {vs : List V} {ds : List D}, RepTs K γ W ts vs → rds m ts = some ds → RepNs K γ W H ds vs
  | [], vs, ds, q, e => by
    simp only [PY.rds, Option.some.injEq] at e
    subst e
    exact q
  | t :: ts, vs, ds, ⟨v, r, e1, q1, q2⟩, e => by
    simp only [PY.rds, Option.bind_eq_some_iff, Option.map_eq_some_iff] at e
    obtain ⟨d, e2, ds', e3, rfl⟩ := e
    exact ⟨v, r, e1, h.rd q1 e2, RepTs.rds h q2 e3⟩
theorem RepTs.mono (l : W.le W1) : ∀ {ts : List T} {vs : List V}, RepTs K γ W ts vs → RepTs K γ W1 ts vs
  | [], _, q => q
  | t :: ts, vs, ⟨v, r, e1, q1, q2⟩ => ⟨v, r, e1, q1.mono l, RepTs.mono l q2⟩
/-- taken: a cell's object is frozen -/
theorem take_ok (h : WOk K γ W m H) {t : T} {v : V} {d : D} {m' : Mu} (q : RepT K γ W t v) (e : tk m t = some (d, m')) : ∃ W', W.le W' ∧ W'.f = W.f ∧ WOk K γ W' m' H ∧ Rep K γ W' d v := by
  cases t with
  | val d' =>
    simp only [tk, Option.some.injEq, Prod.mk.injEq] at e
    obtain ⟨rfl, rfl⟩ := e
    exact ⟨W, Wd.le_refl W, rfl, h, q⟩
  | loc n =>
    obtain ⟨a, rfl, f1⟩ := q
    simp only [tk] at e
    cases ho : m[n]? with
    | none => rw [ho] at e; cases e
    | some o =>
      rw [ho] at e
      simp only [Option.some.injEq, Prod.mk.injEq] at e
      obtain ⟨rfl, rfl⟩ := e
      obtain ⟨a', f2, oa⟩ := h.c n o ho
      rw [f1] at f2; cases f2
      have hl : n < m.length := (List.getElem?_eq_some_iff.mp ho).1
      have fin : ∀ W', W.le W' → W'.f = W.f → (∀ b o, W'.z b = some o → H b = some o) → (∀ b o, W'.z b = some o → FrzK o) → (∀ b, b ≠ a → W'.z b = W.z b) → (∀ b, W'.h b = W.h b) → Rep K γ W' o.d (.ref a) → (∃ u, W'.z a = some u) → WOk K γ W' (m.set n (.frz o.d)) H := by
        intro W' l ef hz hk same sh rep fz
        refine ⟨hz, hk, fun j u e => ?_, by rw [ef]; exact h.inj, fun j b e => by rw [List.length_set]; rw [ef] at e; exact h.len j b e, fun b u e => ?_⟩
        rotate_left
        · rw [sh] at e
          obtain ⟨x1, x2, x3⟩ := h.hh b u e
          exact ⟨x1, by rw [same b fun z => x3 n (z ▸ f1)]; exact x2, by rw [ef]; exact x3⟩
        by_cases hj : n = j
        · subst hj
          rw [List.getElem?_set_self hl] at e
          cases e
          exact ⟨a, by rw [ef]; exact f1, rep, fz⟩
        · rw [List.getElem?_set_ne hj] at e
          obtain ⟨b, f3, ob⟩ := h.c j u e
          refine ⟨b, by rw [ef]; exact f3, ob.mono l (fun xs e2 => ?_) fun _ _ _ e3 => e3⟩
          have hb : b ≠ a := fun z => hj (h.inj n j a f1 (z ▸ f3))
          rw [same b hb]; subst e2; exact ob.2
      cases o with
      | dic _ _ => exact oa.elim
      | st _ => exact oa.elim
      | frz d' =>
        refine ⟨W, Wd.le_refl W, rfl, fin W (Wd.le_refl W) rfl h.z h.k (fun _ _ => rfl) (fun _ => rfl) oa.1 oa.2, oa.1⟩
      | lst xs =>
        obtain ⟨⟨vs, e1, r⟩, nz⟩ := oa
        have l := Wd.le_frz (W := W) (p := a) (o := .lst vs) (.inl nz)
        have rep : Rep K γ (W.frz a (.lst vs)) (.lst xs) (.ref a) := by
          simp only [Rep]
          exact ⟨a, vs, rfl, .inl Wd.frz_at, r.mono l⟩
        refine ⟨W.frz a (.lst vs), l, rfl, fin _ l rfl (fun b u e => ?_) (fun b u e => ?_) (fun b hb => by simp [Wd.frz, hb]) (fun _ => rfl) rep ⟨_, Wd.frz_at⟩, rep⟩
        · by_cases hb : b = a
          · subst hb; simp [Wd.frz] at e; subst e; exact e1
          · simp [Wd.frz, hb] at e; exact h.z b u e
        · by_cases hb : b = a
          · subst hb; simp [Wd.frz] at e; subst e; trivial
          · simp [Wd.frz, hb] at e; exact h.k b u e
theorem takes_ok : ∀ {ts : List T} {vs : List V} {ds : List D} {m m' : Mu} {W : Wd}, WOk K γ W m H → RepTs K γ W ts vs → tks m ts = some (ds, m') → ∃ W', W.le W' ∧ W'.f = W.f ∧ WOk K γ W' m' H ∧ Reps K γ W' ds vs
  | [], vs, ds, m, m', W, h, q, e => by
    simp only [tks, Option.some.injEq, Prod.mk.injEq] at e
    obtain ⟨rfl, rfl⟩ := e
    have q' : vs = [] := q
    subst q'
    exact ⟨W, Wd.le_refl W, rfl, h, reps_nil⟩
  | t :: ts, vs, ds, m, m', W, h, ⟨v, r, e1, q1, q2⟩, e => by
    simp only [tks, Option.bind_eq_some_iff, Option.map_eq_some_iff] at e
    obtain ⟨⟨d, m1⟩, e2, ⟨ds', m2⟩, e3, e4⟩ := e
    simp only [Prod.mk.injEq] at e4
    obtain ⟨rfl, rfl⟩ := e4
    obtain ⟨W1, l1, f1, w1, r1⟩ := take_ok h q1 e2
    obtain ⟨W2, l2, f2, w2, r2⟩ := takes_ok w1 (q2.mono l1) e3
    subst e1
    exact ⟨W2, l1.trans l2, f2.trans f1, w2, reps_cons (r1.mono l2) r2⟩
end
theorem se_tup {xs : List Expr} {es : List E} {k} (h : SL X γ c xs es) : SE X γ c (.Tuple xs k pos) (.tup es) := fun Wx tk => by
  refine (pe_tup (x1 := k) (pos := pos) (h Wx tk)).weak fun σ H Q ⟨W, ρ, m, r, hW, hr, h, out⟩ => ?_
  simp only [ev] at h
  refine tEL_bnd hW hr h out fun vs H1 W1 ts m1 l1 w1 r1 q1 h out => ?_
  simp only [Option.bind_eq_some_iff] at h
  obtain ⟨⟨ds, m2⟩, e1, h⟩ := h
  split at h
  · rename_i hz
    obtain ⟨W2, l2, _, w2, r2⟩ := takes_ok w1 q1 e1
    refine ⟨by rw [r2.length, ← line_eq]; exact hz, (vl_get h (out.mono l2)).tupN w2 r2⟩
  · cases h
theorem se_lst {xs : List Expr} {es : List E} (h : SL X γ c xs es) : SE X γ c (.List xs pos) (.lst es) := fun Wx tk => by
  refine (pe_lst (pos := pos) (h Wx tk)).weak fun σ H Q ⟨W, ρ, m, r, hW, hr, h, out⟩ => ?_
  simp only [ev] at h
  refine tEL_bnd hW hr h out fun vs H1 W1 ts m1 l1 w1 r1 q1 h out => ?_
  simp only [Option.bind_eq_some_iff] at h
  obtain ⟨⟨ds, m2⟩, e1, h⟩ := h
  split at h
  · rename_i hz
    obtain ⟨W2, l2, _, w2, r2⟩ := takes_ok w1 q1 e1
    have g : Get X.K γ W2 m2 (.lst ds, true) Q := giv_get (p := (.lst ds, true)) (by simpa only [giv, Option.map_some] using h) (out.mono l2)
    exact ⟨by rw [r2.length, ← line_eq]; exact hz, g.lstN w2 r2⟩
  · cases h
theorem se_idx (ha : SE X γ c x a) (hb : SE X γ c y b) (hs : PlainIx y) : SE X γ c (.Subscript x y pos) (.idx a b) := fun Wx tk => by
  refine (pe_ix (pos := pos) (idx_ok (γ := γ)) (ha Wx tk) (hb Wx tk) hs).weak fun σ H Q ⟨W, ρ, m, r, hW, hr, h, out⟩ => ?_
  simp only [ev] at h
  refine tE_bnd hW hr h out fun u H1 W1 t m1 l1 w1 r1 q1 h out => ?_
  refine tE_bnd w1 r1 h out fun v H2 W2 t2 m2 l2 w2 r2 q2 h out => ?_
  simp only [Option.bind_eq_some_iff] at h
  obtain ⟨d1, e1, d2, e2, d3, e3, h⟩ := h
  exact ⟨W2, m2, d1, d2, (d3, false), w2, w2.rd (q1.mono l2) e1, w2.rd q2 e2, by show (idxD d1 d2).map _ = _; rw [e3]; rfl, vl_get h out⟩
end
end PY

set_option Elab.async false
set_option linter.all false
set_option maxRecDepth 100000
/-! PyG -/
namespace PY
open PySem PySem.Spec PyProof.Rows L2
structure PlainDef (fd : FuncData) (ps : List Str) : Prop where
  po : fd.params.posonlyargs = []
  ar : fd.params.args.map (·.arg) = ps
  ko : fd.params.kwonlyargs = []
  va : fd.params.vararg = none
  kw : fd.params.kwarg = none
  df : fd.defaults = .none
  nd : ps.Nodup
theorem fm_congr {α β : Type} {f g : α → Option β} : ∀ {l : List α}, (∀ x ∈ l, f x = g x) → l.filterMap f = l.filterMap g
  | [], _ => rfl
  | x :: l, h => by
    rw [List.filterMap_cons, List.filterMap_cons, h x List.mem_cons_self, fm_congr fun y hy => h y (List.mem_cons_of_mem _ hy)]
theorem lookup_zip {α : Type} : ∀ {ps : List Str} {us : List α}, ps.Nodup → us.length = ps.length → ps.filterMap (fun n => ((ps.zip us).lookup n).map (n, ·)) = ps.zip us
  | [], [], _, _ => rfl
  | [], _ :: _, _, h => by simp at h
  | _ :: _, [], _, h => by simp at h
  | p :: ps, u :: us, nd, h => by
    have nd' := List.nodup_cons.mp nd
    have ih := lookup_zip nd'.2 (by simpa using h : us.length = ps.length)
    rw [List.zip_cons_cons, List.filterMap_cons]
    simp only [List.lookup_cons, beq_self_eq_true, Option.map_some]
    congr 1
    refine (fm_congr fun n hn => ?_).trans ih
    have : (n == p) = false := by
      rw [beq_eq_false_iff_ne]
      rintro rfl
      exact nd'.1 hn
    rw [this]
theorem filter_none {α : Type} : ∀ {ps : List Str} {us : List α} {qs : List Str}, (∀ q ∈ qs, q ∈ ps) → us.length = ps.length → qs.filter (fun n => ((ps.zip us).lookup n).isNone) = [] := by
  intro ps us qs h hl
  rw [List.filter_eq_nil_iff]
  intro q hq
  have : ∀ {ps : List Str} {us : List α}, q ∈ ps → us.length = ps.length → ((ps.zip us).lookup q).isSome = true := by
    intro ps
    induction ps with
    | nil => intro us hm; cases hm
    | cons p ps ih =>
      intro us hm hl
      cases us with
      | nil => simp at hl
      | cons u us =>
        rw [List.zip_cons_cons, List.lookup_cons]
        by_cases e : q = p
        · subst e; simp
        · rw [beq_eq_false_iff_ne.mpr e]
          exact ih ((List.mem_cons.mp hm).resolve_left e) (by simpa using hl)
  have t := this (h q hq) hl
  cases e : (ps.zip us).lookup q with
  | none => rw [e] at t; cases t
  | some v => simp
theorem si_none : (seqItems? Value.none : Sem (Option (Array Value))) = pure none := rfl
theorem forIn_pure {α β : Type} (l : List α) (b : β) (f : α → β → Sem (ForInStep β)) (h : ∀ a ∈ l, f a b = pure (.yield b)) : (forIn l b f : Sem β) = pure b := by
  induction l with
  | nil => rfl
  | cons a l ih =>
    rw [List.forIn_cons, h a List.mem_cons_self, pure_bind]
    exact ih fun x hx => h x (List.mem_cons_of_mem _ hx)
theorem bind_pos {fd : FuncData} {ps : List Str} (h : PlainDef fd ps) (us : List Value) (hl : us.length = ps.length) : bindArgs fd ⟨us, []⟩ = pure (ps.zip us) := by
  obtain ⟨h1, h2, h3, h4, h5, h6, nd⟩ := h
  simp only [bindArgs, h1, h2, h3, h4, h5, h6, si_none, List.map_nil, List.nil_append, List.forIn_nil, pure_bind]
  have e1 : decide (us.length > ps.length) = false := by simp [hl]
  have e2 : List.filter (fun n => ((ps.zip us).lookup n).isNone) ps = [] := filter_none (fun q h => h) hl
  simp [e1, e2, hl, lookup_zip nd hl]
theorem look_none {α : Type} : ∀ {ks : List Str} {ws : List α} {n : Str}, n ∉ ks → (ks.zip ws).lookup n = none
  | [], _, _, _ => rfl
  | _ :: _, [], _, _ => rfl
  | k :: ks, w :: ws, n, h => by
    rw [List.zip_cons_cons, List.lookup_cons, show (n == k) = false from beq_eq_false_iff_ne.mpr fun e => h (by rw [e]; exact List.mem_cons_self)]
    exact look_none fun q => h (List.mem_cons_of_mem _ q)
theorem look_app {α : Type} {l : List (Str × α)} {k n : Str} {v : α} (h : (l.lookup n) = none) : (l ++ [(k, v)]).lookup n = if n == k then some v else none := by
  induction l with
  | nil => rw [List.nil_append, List.lookup_cons]; cases n == k <;> rfl
  | cons p l ih =>
    obtain ⟨a, b⟩ := p
    rw [List.lookup_cons] at h
    rw [List.cons_append, List.lookup_cons]
    cases hn : n == a with
    | true => rw [hn] at h; cases h
    | false => rw [hn] at h; exact ih h
theorem kw_loop {ps : List Str} {g : (Str × Value) → (List (Str × Value) × List (Str × Value)) → Sem (ForInStep ((List (Str × Value) × List (Str × Value))))}
    (hg : ∀ k v sl ex, k ∈ ps → sl.lookup k = none → g (k, v) (sl, ex) = pure (.yield (sl ++ [(k, v)], ex))) :
    ∀ {l sl : List (Str × Value)} {ex}, (∀ q ∈ l, q.1 ∈ ps) → (l.map (·.1)).Nodup → (∀ q ∈ l, sl.lookup q.1 = none) → (forIn l ((sl, ex) : (List (Str × Value) × List (Str × Value))) g) = pure (sl ++ l, ex)
  | [], sl, ex, _, _, _ => by rw [List.forIn_nil, List.append_nil]
  | (k, v) :: l, sl, ex, hp, nd, hn => by
    rw [List.forIn_cons, hg k v sl ex (hp _ List.mem_cons_self) (hn _ List.mem_cons_self), pure_bind]
    have nd' := List.nodup_cons.mp (by simpa using nd : (k :: l.map (·.1)).Nodup)
    show forIn l _ g = _
    rw [kw_loop hg (fun q hq => hp q (List.mem_cons_of_mem _ hq)) nd'.2 fun q hq => ?_, List.append_assoc, List.singleton_append]
    rw [look_app (hn q (List.mem_cons_of_mem _ hq))]
    have : (q.1 == k) = false := beq_eq_false_iff_ne.mpr fun e => nd'.1 (e ▸ List.mem_map_of_mem hq)
    rw [this]
    rfl
theorem look_at {α : Type} : ∀ {ks : List Str} {ws : List α} {i : Nat} {n : Str}, ks.Nodup → ks.length = ws.length → ks[i]? = some n → (ks.zip ws).lookup n = ws[i]?
  | [], _, _, _, _, _, h => by simp at h
  | _ :: _, [], _, _, _, h, _ => by simp at h
  | k :: ks, w :: ws, 0, n, _, _, h => by
    simp only [List.getElem?_cons_zero, Option.some.injEq] at h
    rw [List.zip_cons_cons, List.lookup_cons, h, beq_self_eq_true]; rfl
  | k :: ks, w :: ws, i + 1, n, nd, hl, h => by
    have nd' := List.nodup_cons.mp nd
    rw [List.getElem?_cons_succ] at h ⊢
    rw [List.zip_cons_cons, List.lookup_cons, show (n == k) = false from beq_eq_false_iff_ne.mpr fun e => nd'.1 (by rw [← e]; exact List.mem_of_getElem? h)]
    exact look_at nd'.2 (by simpa using hl) h
theorem pick_zip {α : Type} {ks : List Str} {ws : List α} (nd : ks.Nodup) (hl : ks.length = ws.length) : ∀ {ord : List Nat} {ps : List Str} {us : List α}, pick ks ord = some ps → pick ws ord = some us → ps.filterMap (fun n => ((ks.zip ws).lookup n).map (n, ·)) = ps.zip us
  | [], ps, us, h, h' => by
    simp only [pick, Option.some.injEq] at h h'
    subst h h'; rfl
  | i :: ord, ps, us, h, h' => by
    simp only [pick, Option.bind_eq_some_iff, Option.map_eq_some_iff] at h h'
    obtain ⟨n, h1, ps', h2, rfl⟩ := h
    obtain ⟨w, h3, us', h4, rfl⟩ := h'
    rw [List.filterMap_cons, look_at nd hl h1, h3, List.zip_cons_cons, pick_zip nd hl h2 h4]
    rfl
theorem pick_look {α : Type} {ks : List Str} {ws : List α} (nd : ks.Nodup) (hl : ks.length = ws.length) : ∀ {ord : List Nat} {ps : List Str} {us : List α}, pick ks ord = some ps → pick ws ord = some us → ∀ n ∈ ps, ((ks.zip ws).lookup n).isNone = false
  | [], ps, us, h, h', n, hn => by
    simp only [pick, Option.some.injEq] at h
    subst h; cases hn
  | i :: ord, ps, us, h, h', n, hn => by
    simp only [pick, Option.bind_eq_some_iff, Option.map_eq_some_iff] at h h'
    obtain ⟨m, h1, ps', h2, rfl⟩ := h
    obtain ⟨w, h3, us', h4, rfl⟩ := h'
    rcases List.mem_cons.mp hn with rfl | hn
    · rw [look_at nd hl h1, h3]; rfl
    · exact pick_look nd hl h2 h4 n hn
/-- every parameter by its name -/
theorem bind_kw {fd : FuncData} {ps ks : List Str} {ord : List Nat} {ws us : List Value} (h : PlainDef fd ps) (nd : ks.Nodup) (hl : ks.length = ws.length) (hk : ∀ k ∈ ks, k ∈ ps) (h1 : pick ks ord = some ps) (h2 : pick ws ord = some us) : bindArgs fd ⟨[], ks.zip ws⟩ = pure (ps.zip us) := by
  obtain ⟨a1, a2, a3, a4, a5, a6, _⟩ := h
  have e0 : ps.zip ([] : List Value) = [] := by cases ps <;> rfl
  have e2 : List.filter (fun n => ((ks.zip ws).lookup n).isNone) ps = [] := by
    rw [List.filter_eq_nil_iff]
    intro n hn
    rw [pick_look nd hl h1 h2 n hn]; decide
  simp only [bindArgs, a1, a2, a3, a4, a5, a6, si_none, List.map_nil, List.nil_append, pure_bind, e0]
  rw [kw_loop (ps := ps) (fun k v sl ex hp hn => ?_) (fun q hq => hk _ (List.of_mem_zip hq).1) (by rw [List.map_fst_zip (by omega)]; exact nd) (fun q _ => rfl), pure_bind]
  · have e3 := pick_zip nd hl h1 h2
    simp [e2, e3]
  · have c1 : ps.contains k = true := by simpa using hp
    simp [hp, hn, pure_bind]
end PY

set_option Elab.async false
set_option linter.all false
set_option maxRecDepth 100000
set_option maxHeartbeats 1000000
/-! PyW -/
namespace PY
open PySem PySem.W PySem.Calls PyProof.Rows PySem.HandSPX
def wA (p1 p2 : Pos) : Arguments := { posonlyargs := [], args := [{ arg := "self", annotation := none, pos := p1 }, { arg := "value", annotation := none, pos := p2 }], vararg := none, kwonlyargs := [], kw_defaults := [], kwarg := none, defaults := [] }
def wB (z : Str) (q : Nat → Pos) : List Stmt := [
  .Expr (.Call (.Attribute (.Call (.Name "super" (q 0)) [] [] (q 1)) "__init__" (q 2)) [.Constant (.str z) 0 (q 3)] [] (q 4)) (q 5),
  .Assign [.Attribute (.Name "self" (q 6)) "value" (q 7)] (.Name "value" (q 8)) (q 9)]
def wS : Scope := { kind := .function, names := [(PySem.Str.ofString "self", .local), (PySem.Str.ofString "value", .local), (PySem.Str.ofString "__class__", .free), (PySem.Str.ofString "super", .globalImplicit)], isGenerator := false, isCoroutine := false, more := [] }
/-- what the written part says of the class at C, whose __init__ at fI stands in the class at D -/
structure WeTxt (file0 : Str) (K : Frag) (C D fI : Addr) : Prop where
  ini : excInitIn K C [.type "ValueError", .type "Exception", .type "BaseException", .type "object"] "ValueError.__new__" = true
  cls : ∃ cd, clsIn K C = some cd ∧ refsVE cd.mro = true ∧ cd.hasDict = true
  sa : findIn K (.ref C) "__setattr__" = some (some (.builtin "object.__setattr__"))
  no : findIn K (.ref C) "value" = some none
  iC : findIn K (.ref C) "__init__" = some (some (.ref fI))
  tI : typeIn K (.ref fI) = some (.type "function")
  sup : ks_superIn K C D "__init__" = some (some (.builtin "ValueError.__init__"))
  sub : subIn K (.ref C) (.type "ValueError") = some true
  mro : mroIn K C (.ref D) = some true
  any : nsIn K cStatics "thirdparty.any" = some none
  cD : ∃ cdD, clsIn K D = some cdD
  fn : ∃ (oc : Value) (od : Option Addr) (doc pm : Value) (an : Option Addr) (cda : Addr) (ct : Value) (cc : Addr) (osl : Array (Option Value)) (p1 p2 : Pos) (z : Str) (q : Nat → Pos) (vs : Array Value) (tf : Tok) (ccl cl : Value) (cdd cld : Option Addr) (ccs csl : Array (Option Value)),
    ((q 2).endLine == (q 4).line) = true ∧ K.lookup fI = some ⟨oc, od, .func (ksFn "__init__" "WormsError.__init__" (wA p1 p2) (wB z q) wS .none .none doc pm an (.ref cda) ct cc), osl⟩ ∧ codeIn K (.ref cda) "WormsError.__init__" = true ∧
      K.lookup cda = some ⟨ccl, cdd, .fields vs, ccs⟩ ∧ vs[2]? = some (.str file0 tf) ∧ K.lookup cc = some ⟨cl, cld, .cell (some (.ref D)), csl⟩
/-- behind the __init__ -/
structure WeEnd (h h' : Heap) (x C dx t1 : Addr) (v : Value) : Prop where
  keep : ∀ b o, b ≠ x → h.get? b = some o → h'.get? b = some o
  obj : h'.get? x = some { cls := .ref C, dict := some dx, data := .fields #[.ref t1, .none, .none, .none, .bool false, .none] }
  dbig : h.objs.size ≤ dx
  dne : dx ≠ x
  ns : h'.Ns1 dx (fun y => if y = "value" then some v else none)
/-- o.m(..) on one line -/
theorem meth_line {o : Expr} {name : Str} {apos pos : Pos} {args : List Expr} {env : Env} (hl : (apos.endLine == pos.line) = true) (hf : methodCallForm (args.length + 0) (backTo pos (starEach args env)) [] = true) :
    eval (.Call (.Attribute o name apos) args [] pos) env = (do
      let ov ← attributeBase o name env (eval o env)
      standAt apos.atName
      let (f, first) ← holding [ov] (getMethod ov name (do return (← importBound o env).getD true))
      callWith pos f first (backTo pos (starEach args env)) []) := by
  show (do
    let ov ← attributeBase o name env (eval o env)
    standAt apos.atName
    methodCall o name apos pos env ov (args.length + 0) (backTo pos (starEach args env)) []) = _
  unfold methodCall calleeOf methodCallPos
  simp only [hf, hl, if_true, Bool.not_true, Bool.false_or, pure_bind]
section
variable {prog : Program} {w : World} {A : Around} {E : Value → Shared → Prop} {R : Result → Shared → Prop} {s : Shared} {K : Frag} {C D fI : Addr} {mg mb : Str → Option Value} {file0 : Str}
theorem we_init (T : WeTxt file0 K C D fI) (hfile : ((prog.main.file : Str) == file0) = true) (htop : (prog.main.scope.names.lookup ("super" : Str)).isSome = false) (G : s.heap.Ns mainGlobals mg) (hgs : mg "super" = none) (Bn : s.heap.Ns builtinsNs mb) (hbs : mb "super" = some (.type "super"))
    {x t0 : Addr} {v : Value} (X : K.In s.heap) (hlim : s.heap.NoLimit) (hx : s.heap.get? x = some (PySem.HandSPX.excO C t0)) (hnx : K.lookup x = none) (hroom : A.depth < recursionLimit)
    (hq : ∀ h' tk dx t1, WeEnd s.heap h' x C dx t1 v → R (.ok (.ret .none)) { s with heap := h', toks := tk }) : codeAny (model prog w) A (.call (.ref fI) ⟨[.ref x, v], []⟩) R s := by
  obtain ⟨oc, od, doc, pm, an, cda, ct, cc, osl, p1, p2, z, q, vs, tf, ccl, cl, cdd, cld, ccs, csl, hline, lk, hcd, lcode, hvs, lcell⟩ := T.fn
  obtain ⟨cd, hcl, hmro, hdict⟩ := T.cls
  obtain ⟨cdD, hD⟩ := T.cD
  refine ks_codeAny_call_defAt (binds := [("self", .ref x), ("value", v)]) hroom (X _ _ lk) rfl hlim (codeRec_of X hcd) rfl (BindsTo.of_eq (by first | rfl | with_unfolding_all rfl)) (show ∀ y ∈ wS.names, y.2 ≠ .cell by decide) (fun y hy => ?_) (fun h₁ hns k => ?_)
  · have hy' : y = (("self" : Str), Value.ref x) ∨ y = (("value" : Str), v) := by simpa using hy
    rcases hy' with rfl | rfl <;> rfl
  have X1 : K.In h₁ := X.keeps k
  have hx1 := k _ _ hx
  obtain ⟨oD, hD1, hD2⟩ : ∃ oD, h₁.get? D = some oD ∧ oD.data = .cls cdD := by
    unfold clsIn at hD
    split at hD
    · rename_i c1 d1 cd1 sl1 ho1
      cases hD
      exact ⟨_, X1 _ _ ho1, rfl⟩
    · cases hD
  have noCls : ∀ c, (PySem.HandSPX.excO C t0).data ≠ .cls c := fun c e => by cases e
  have I1 : InstAt h₁ x (PySem.HandSPX.excO C t0) C none := ⟨hx1, rfl, rfl, trivial⟩
  refine ks_wpAt_execs_cons (ks_wpAt_Expr_any (ks_wpAt_MethodCall ?_ (meth_line hline (by rfl))))
  refine ks_wpAt_super_base (prog := prog) (w := w) (fd := ksFn "__init__" "WormsError.__init__" (wA p1 p2) (wB z q) wS .none .none doc pm an (.ref cda) ct cc) rfl rfl (by decide) rfl (X1 _ _ lk) rfl rfl rfl (X1 _ _ lcode) rfl hvs hfile htop ?_
  refine ks_loadName_global rfl rfl (loadGlobal_builtin (G.keeps k) hgs (Bn.keeps k) hbs ⟨rfl, ?_⟩)
  refine wpAny_loadName_free rfl rfl rfl ⟨_, X1 _ _ lcell, rfl⟩ ?_
  refine wpAny_loadName_local rfl rfl hns (by first | rfl | with_unfolding_all rfl | kernel_rfl) ?_
  refine ks_wpAny_isType_cls hD1 hD2 ⟨rfl, ?_⟩
  refine ks_wpAny_call_super hD1 hD2 hx1 rfl noCls (looks_mroIn X1 T.mro) (fun h₂ hso k2 => ?_)
  have X2 : K.In h₂ := X1.keeps k2
  have hx2 := k2 _ _ hx1
  have I2 : InstAt h₂ x (PySem.HandSPX.excO C t0) C none := ⟨hx2, rfl, rfl, trivial⟩
  have along : alongIn K "__init__" ((cd.mro.dropWhile (· != .ref D)).drop 1) = some (some (.builtin "ValueError.__init__")) := by
    have e := T.sup
    unfold ks_superIn at e
    rw [hcl] at e
    exact e
  refine kxs_getMethod kxs_ValueError hso (looks_opaque X2 T.any) (l₀ := cd.mro) (fun A Q E s kk qq => wpAny_bind ((looks_clsIn X2 hcl) A _ E s kk (wpAny_pure qq))) rfl X2 along (I2.type.andThen (looks_subIn X2 T.sub)) (ks_ne X2 I2 hcl) (by decide) ?_
  have hx3 : (h₂.push (kxs_mw "ValueError.__init__" x)).get? x = some (PySem.HandSPX.excO C t0) := Heap.get?_push_of_some _ hx2
  have hu3 : (h₂.push (kxs_mw "ValueError.__init__" x)).get? h₂.objs.size = some (kxs_mw "ValueError.__init__" x) := Heap.get?_push_size _ rfl
  have X3 : K.In (h₂.push (kxs_mw "ValueError.__init__" x)) := X2.keeps fun b o e => Heap.get?_push_of_some _ e
  refine kxs_callWith (i := "ValueError.__init__") (x := x) (by rfl) ?_
  refine evalArgs_plain (Calls.spliced_cons (Calls.Constant_str (k := 0) (pos := q 3) (Calls.spliced_nil ⟨hu3, ?_⟩)))
  obtain ⟨nm, N', qn, bs, bm, hdct, sn, sub, ab, col, dd, k0, k1, k2', k3, k5, hC, hT⟩ := excInit_of X3 T.ini
  refine wpAny_call (codeAny_of_tree ?_)
  show wpAny _ _ (callAny (.ref h₂.objs.size) ⟨_, []⟩) _ _ _
  simp only [callAny]
  refine wpAny_bind (wpAny_load hu3 ?_)
  simp only [kxs_mw, show (Value.type "method-wrapper" == Value.type "method" || Value.type "method-wrapper" == Value.type "builtin_function_or_method" || Value.type "method-wrapper" == Value.type "method-wrapper") = true by decide, if_true]
  refine KFB.if_so (by decide) ?_
  refine wpAny_bind (check_bound_init F.excBase_ValueError.toExcCallFacts hC hx3 rfl ?_)
  refine wpAny_bind (wpAny_pure (wpAny_pure ?_))
  refine ⟨plainId_quiet F.excBase_ValueError.init.plain _, codeAny_builtin F.excBase_ValueError.initEntry ?_⟩
  refine exc_init_tree (cls := .ref C) (t0 := t0) (dv := none) (c2 := .none) (c3 := .none) (b4 := .bool false) hx3 (by show 1 ≤ sizeLine; decide) fun h₄ k4 hx4 _ => ?_
  -- self.value = value
  have L1 : s.heap.objs.size ≠ x := Nat.ne_of_gt (Heap.lt_size hx)
  have up4 : ∀ b o, b ≠ x → h₁.get? b = some o → h₄.get? b = some o := fun b o hb e => k4 b o hb (Heap.get?_push_of_some _ (k2 b o e))
  have X4 : K.In h₄ := fun a o e => up4 a o (fun z => by rw [z, hnx] at e; cases e) (X1 _ _ e)
  obtain ⟨oL, es, ep, hL, rL⟩ := hns
  have hns4 : h₄.Ns s.heap.objs.size (fun y => [((("self" : Str)), Value.ref x), (("value" : Str), v)].reverse.lookup y) := ⟨oL, es, ep, up4 _ _ L1 hL, rL⟩
  refine wpAt_of_wpAny ?_
  show wpAny _ _ (PySem.execs [.Assign [.Attribute (.Name "self" (q 6)) "value" (q 7)] (.Name "value" (q 8)) (q 9)] _) _ _ _
  refine wpAny_execs_cons (plainObj_wpAny_Assign_Attribute ?_)
  refine wpAny_Name (wpAny_loadName_local (v := v) rfl rfl hns4 (by first | rfl | with_unfolding_all rfl | kernel_rfl) ?_) (by decide)
  refine wpAny_Name (wpAny_loadName_local (v := .ref x) rfl rfl hns4 (by first | rfl | with_unfolding_all rfl | kernel_rfl) ?_) (by decide)
  refine set_plain X4 (ox := PySem.HandSPX.excO C _) (od := none) ⟨hx4, rfl, rfl, trivial⟩ T.sa ?_
  refine exc_osa X4 hx4 hcl hmro hdict T.no (fun h₅ tk₅ dx k5 dn dne hx5 hn5 => ?_)
  show wpAny _ _ (PySem.execs [] _) _ _ _
  refine wpAny_execs_nil (hq h₅ tk₅ dx _ ⟨fun b o hb e => k5 b o hb (up4 b o hb (k b o e)), hx5, Nat.le_of_lt (Nat.lt_of_lt_of_le hns4.lt dn), dne, hn5⟩)
/-- what is left of C(v) -/
structure WeMade (h h' : Heap) (e C d : Addr) (v : Value) : Prop where
  keep : ∀ b o, h.get? b = some o → h'.get? b = some o
  new : h.objs.size ≤ e
  obj : ∃ oe vs, h'.get? e = some oe ∧ oe.cls = .ref C ∧ oe.dict = some d ∧ oe.data = .fields vs ∧ vs[1]? = some .none
  dbig : h.objs.size ≤ d
  dne : d ≠ e
  ns : h'.Ns1 d (fun y => if y = "value" then some v else none)
theorem we_made (T : WeTxt file0 K C D fI) (hfile : ((prog.main.file : Str) == file0) = true) (htop : (prog.main.scope.names.lookup ("super" : Str)).isSome = false) (G : s.heap.Ns mainGlobals mg) (hgs : mg "super" = none) (Bn : s.heap.Ns builtinsNs mb) (hbs : mb "super" = some (.type "super"))
    {v : Value} (X : K.In s.heap) (hlim : s.heap.NoLimit) (hroom : A.depth + 1 < recursionLimit) (hq : ∀ h' tk e d, WeMade s.heap h' e C d v → R (.ok (.ret (.ref e))) { s with heap := h', toks := tk }) : codeAny (model prog w) A (.call (.ref C) ⟨[v], []⟩) R s := by
  obtain ⟨nm, N', qn, bs, bm, hdct, sn, sub, ab, col, dd, k0, k1, k2', k3, k5, hC, hT⟩ := excInit_of X T.ini
  obtain ⟨hp, g, dr, tk, os⟩ := s
  have k : ∀ b o, hp.get? b = some o → ((hp.push (kdv_tup [v])).push (PySem.HandSPX.excO C hp.objs.size)).get? b = some o := fun b o e => Heap.get?_push_of_some _ (Heap.get?_push_of_some _ e)
  have hget : ((hp.push (kdv_tup [v])).push (PySem.HandSPX.excO C hp.objs.size)).get? (hp.objs.size + 1) = some (PySem.HandSPX.excO C hp.objs.size) := by heap_get
  have hnx : K.lookup (hp.objs.size + 1) = none := by
    cases e : K.lookup (hp.objs.size + 1) with
    | none => rfl
    | some o =>
      have z : hp.get? (hp.objs.size + 1) = some o := X _ _ e
      exact absurd (Nat.lt_of_succ_lt (Heap.lt_size z)) (Nat.lt_irrefl _)
  refine PySem.HandSPX.call_own F.excBase_ValueError hT hC (looks_findIn X T.iC) (fun self => bind_fn X self T.tI) (by show 1 ≤ sizeLine; decide) ?_
  refine we_init (s := ⟨(hp.push (kdv_tup [v])).push (PySem.HandSPX.excO C hp.objs.size), g, dr, tk, os⟩) T hfile htop (G.keeps k) hgs (Bn.keeps k) hbs (X.keeps k) (hlim.keeps k) hget hnx (by
    show A.depth + 1 < recursionLimit
    exact hroom) fun h' tk' dx t1 ⟨k', hx, dn, dne, hns⟩ => ?_
  have old : ∀ b o, hp.get? b = some o → h'.get? b = some o := fun b o e => k' b o (Nat.ne_of_lt (Nat.lt_succ_of_lt (Heap.lt_size e))) (k b o e)
  have z : hp.objs.size + 1 + 1 ≤ dx := by
    first
      | (simpa only [Heap.size_push] using dn)
      | exact dn
      | (have q := dn; rw [Heap.size_push, Heap.size_push] at q; exact q)
  exact ⟨rfl, hq h' tk' (hp.objs.size + 1) dx ⟨old, Nat.le_succ _, ⟨_, _, hx, rfl, rfl, rfl, rfl⟩, Nat.le_trans (Nat.le_trans (Nat.le_succ _) (Nat.le_succ _)) z, dne, hns⟩⟩
end
end PY

set_option Elab.async false
set_option linter.all false
set_option maxRecDepth 100000
/-! PyCx -/
namespace PY
open PySem PySem.Spec PyProof.Rows L2
/-- what the written part says of a class alone -/
structure ClsK (K : PySem.W.Frag) (C D fI : Addr) (file0 : Str) : Prop where
  we : WeTxt file0 K C D fI
  kp : PySem.W.keepIn K (.ref C) = true
  ex : PySem.W.subIn K (.ref C) (.type "BaseException") = some true
  ty : PySem.W.typeIn K (.ref C) = some (.type "type")
  is : (PySem.W.clsIn K C).isSome = true
  ga : PySem.W.findIn K (.ref C) "__getattribute__" = some (some (.builtin "BaseException.__getattribute__"))
  gt : PySem.W.findIn K (.ref C) "__getattr__" = some none
  ca : PySem.W.findIn K (.ref C) "__class__" = some (some (.builtin "object.__class__"))
  hd : PySem.W.hasDictIn K C = true
  gn : PySem.W.specialIn K (.builtin "object.__class__") "__get__" = some (some (.builtin "getset_descriptor.__get__"))
  tk : PySem.W.takesIn K (.builtin "object.__class__") = some true
  mo : PySem.W.mroIn K C (.type "object") = some true
  no : ∀ t ∈ ["NoneType", "bool", "int", "str", "tuple", "list"], PySem.W.kitOne K (.type t) (.ref C) = some false
/-- an error class of the module, as a place sees it -/
structure ClsAt (P : Program) (K : PySem.W.Frag) (mg : Str → Option Value) (γ : Nm) (g : Gz) (n : Str) (ps : List Str) (C : Addr) : Prop where
  at_ : mg n = some (.ref C)
  cad : γ.cad n = some C
  txt : ∃ (file0 : Str) (D fI : Addr), ClsK K C D fI file0 ∧ ((P.main.file : Str) == file0) = true
  top : (P.main.scope.names.lookup ("super" : Str)).isSome = false
  sup : mg "super" = none
  rel : ∀ n2 ps2 C2, g.cls n2 = some ps2 → mg n2 = some (.ref C2) → PySem.W.exmOne K (.ref C) (.ref C2) = some (decide (n2 ∈ ps)) ∧ PySem.W.kitOne K (.ref C) (.ref C2) = some (decide (n2 ∈ ps))
end PY

set_option Elab.async false
set_option linter.all false
set_option maxRecDepth 100000
/-! PyI -/
namespace PY
open PySem PySem.Spec PyProof.Rows L2

/-- what a def promises, told by the calls' meaning -/
def spOf (K : PySem.W.Frag) (γ : Nm) (c : Call) (f : Str) : Sp := fun vs H Q E =>
  ∃ W ts m r, WOk K γ W m H ∧ RepTs K γ W ts vs ∧ c f ts m = some r ∧ OutE K γ W (fun cls d _ H' => E cls d H') [] r Q
/-- a def keeps its promise where no guard stands -/
structure FnG (P : Program) (w : World) (K : PySem.W.Frag) (mg : Str → Option Value) (base : Heap) (k : Nat) (f : Addr) (fd : FuncData) (ps : List Str) (sp : Sp) : Prop where
  len : ∀ vs H Q E, sp vs H Q E → vs.length = ps.length
  run : ∀ (A : Around) (outer : List Env) (s : Shared) (H : Hp) (args : Args) (us : List Value) (vs : List V) (Q : VK) (E : XK), Room k A → A.guards = some [] → Env0 P w K mg base A outer s H →
    BindsTo s fd args (ps.zip us) → Vals vs us → sp vs H Q E → codeAny (model P w) A (.call (.ref f) args) (CR (L2.CX P w) outer P w H s Q E) s
/-- a def of the module -/
structure DefAt (P : Program) (w : World) (K : PySem.W.Frag) (mg : Str → Option Value) (base : Heap) (γ : Nm) (k : Nat) (c : Call) (f : Str) (a : Addr) (fd : FuncData) (ps : List Str) : Prop where
  at_ : mg f = some (.ref a)
  kp : PySem.W.keepIn K (.ref a) = true
  pd : PlainDef fd ps
  fad : γ.fad f = some a
  lk : ∃ oc od osl, K.lookup a = some ⟨oc, od, .func fd, osl⟩
  fn : FnG P w K mg base k a fd ps (spOf K γ c f)
/-- what a body's place has -/
structure Ok (X : L2.Cx) (γ : Nm) (c : Cz) (k : Nat) : Prop where
  room : Room k X.A
  hg : X.A.guards = some []
  calm : X.calm = true
  nd : X.N.Nodup
  defs : ∀ f ps, c.g.par f = some ps → ∃ a fd, DefAt X.prog X.w X.K X.mg X.base γ k c.call f a fd ps
  glob : ∀ n d, c.g.glob n = some d → GlobAt X γ n d
  fadi : ∀ f g a, γ.fad f = some a → γ.fad g = some a → f = g
  cls : ∀ n ps, c.g.cls n = some ps → ∃ C, ClsAt X.prog X.K X.mg γ c.g n ps C
theorem Ok.hu {X : L2.Cx} {γ : Nm} {c : Cz} {k : Nat} (o : Ok X γ c k) : X.A.units + 64 < cLine := o.room.units
theorem RepTs.length {K : PySem.W.Frag} {γ : Nm} {W : Wd} : ∀ {ts : List T} {vs : List V}, RepTs K γ W ts vs → vs.length = ts.length
  | [], vs, q => by have q' : vs = [] := q; rw [q']; rfl
  | t :: ts, vs, ⟨v, r, e, _, q⟩ => by rw [e, List.length_cons, List.length_cons, RepTs.length q]
theorem RepTs.pick {K : PySem.W.Frag} {γ : Nm} {W : Wd} {ts : List T} {vs : List V} (q : RepTs K γ W ts vs) : ∀ {i : Nat} {t : T}, ts[i]? = some t → ∃ v, vs[i]? = some v ∧ RepT K γ W t v := by
  induction ts generalizing vs with
  | nil => intro i t h; simp at h
  | cons t0 ts ih =>
    obtain ⟨v, r, rfl, q1, q2⟩ := q
    intro i t h
    cases i with
    | zero => simp at h; subst h; exact ⟨v, rfl, q1⟩
    | succ i => exact ih q2 (by simpa using h)
theorem RepTs.picks {K : PySem.W.Frag} {γ : Nm} {W : Wd} {ts : List T} {vs : List V} (q : RepTs K γ W ts vs) : ∀ {ord : List Nat} {us : List T}, PY.pick ts ord = some us → ∃ ws, PY.pick vs ord = some ws ∧ RepTs K γ W us ws
  | [], us, h => by
    simp only [PY.pick, Option.some.injEq] at h
    subst h
    exact ⟨[], rfl, rfl⟩
  | i :: ord, us, h => by
    simp only [PY.pick, Option.bind_eq_some_iff, Option.map_eq_some_iff] at h
    obtain ⟨t, h1, us', h2, rfl⟩ := h
    obtain ⟨v, e1, r1⟩ := q.pick h1
    obtain ⟨ws, e2, r2⟩ := q.picks h2
    exact ⟨v :: ws, by simp [PY.pick, e1, e2], v, ws, rfl, r1, r2⟩
theorem vals_picks {vs : List V} {us : List Value} (q : Vals vs us) : ∀ {ord : List Nat} {ws : List V}, PY.pick vs ord = some ws → ∃ xs, PY.pick us ord = some xs ∧ Vals ws xs
  | [], ws, h => by
    simp only [PY.pick, Option.some.injEq] at h
    subst h
    exact ⟨[], rfl, .nil⟩
  | i :: ord, ws, h => by
    simp only [PY.pick, Option.bind_eq_some_iff, Option.map_eq_some_iff] at h
    obtain ⟨t, h1, us', h2, rfl⟩ := h
    obtain ⟨u, e1, r1⟩ := q.get h1
    obtain ⟨xs, e2, r2⟩ := vals_picks q h2
    exact ⟨u :: xs, by simp [PY.pick, e1, e2], .cons r1 r2⟩
theorem pick_from {α : Type} : ∀ (l pre : List α), PY.pick (pre ++ l) (List.range' pre.length l.length) = some l
  | [], pre => rfl
  | x :: l, pre => by
    have h := pick_from l (pre ++ [x])
    rw [List.append_assoc, List.singleton_append, List.length_append] at h
    rw [List.length_cons, List.range'_succ]
    simp only [PY.pick]
    rw [List.getElem?_append_right (Nat.le_refl _), Nat.sub_self, List.getElem?_cons_zero]
    show (PY.pick (pre ++ x :: l) (List.range' (pre.length + 1) l.length)).map _ = _
    rw [show pre.length + 1 = pre.length + [x].length from rfl, h]; rfl
theorem pick_all {α : Type} (l : List α) : PY.pick l (List.range' 0 l.length) = some l := pick_from l []

section
variable {X : L2.Cx} {γ : Nm} {c : Cz} {k : Nat} {pins : List (Addr × Obj)} {σ : L2.St} {H : Hp} {s : Shared} {Q : VK} {Wx : WX} {f : Str} {a : Addr} {fd : FuncData} {ps : List Str} {W : Wd} {m : Mu} {r : R} {ts : List T} {vs : List V} {us : List Value}
/-- the callee runs -/
theorem run_g (o : Ok X γ c k) (D : DefAt X.prog X.w X.K X.mg X.base γ k c.call f a fd ps) (tk : Takes X Wx) (I : Inv X pins σ H s) (rv : Vals vs us) (hW : WOk X.K γ W m H) (q : RepTs X.K γ W ts vs) (h : c.call f ts m = some r)
    (out : OutE X.K γ W Wx σ r Q) {pos : List Value} {kw : List (Str × Value)} (hb : us.length = ps.length → BindsTo s fd ⟨pos, kw⟩ (ps.zip us)) : wpAny (model X.prog X.w) X.A (PySem.call (.ref a) pos kw) (EP X pins σ Q) X.xe s := by
  have sp : spOf X.K γ c.call f vs H Q (fun cls d H' => Wx cls d σ H') := ⟨W, ts, m, r, hW, q, h, by cases r <;> exact out⟩
  have hl : us.length = ps.length := by rw [← rv.length]; exact D.fn.len _ _ _ _ sp
  refine wpAny_call (codeAny_mono (D.fn.run X.A X.stack s H ⟨pos, kw⟩ us vs Q _ o.room o.hg I.env0 (hb hl) rv sp) fun r s' hq => ?_)
  cases r with
  | error e => exact tk e s' (XE.of_call I (fun _ _ _ x => x) hq)
  | ok fl =>
    cases fl with
    | ret u => exact I.after hq
    | next => exact False.elim hq
    | brk => exact False.elim hq
    | cont => exact False.elim hq
end
section
variable {X : L2.Cx} {γ : Nm} {c : Cz} {k : Nat} {x : Expr} {xs : List Expr} {es : List E} {f : Str} {p pos : Pos}
theorem evL_length : ∀ {es : List E} {ρ : Rho} {m m' : Mu} {ts : List T}, evL c es ρ m = some (.ok ts m') → ts.length = es.length
  | [], ρ, m, m', ts, h => by simp only [evL, Option.some.injEq, RL.ok.injEq] at h; rw [← h.1]; rfl
  | e :: es, ρ, m, m', ts, h => by
    rw [evL] at h
    cases he : ev c e ρ m with
    | none => rw [he] at h; cases h
    | some r0 =>
      rw [he] at h
      cases r0 with
      | ex e m => cases h
      | ok t f m1 =>
        cases hl : evL c es ρ m1 with
        | none => simp only [hl] at h; cases h
        | some r1 =>
          simp only [hl] at h
          cases r1 with
          | ex e m => cases h
          | ok ts m2 =>
            simp only [Option.some.injEq, RL.ok.injEq] at h
            obtain ⟨rfl, rfl⟩ := h
            rw [List.length_cons, List.length_cons, evL_length hl]
/-- f(e, ..) -/
theorem se_call (o : Ok X γ c k) (hl : Gl X f) (hdb : (f == ("__debug__" : Str)) = false) (ha : SL X γ c (x :: xs) es) (hs : starEach (x :: xs) X.env = (false, eval x X.env) :: starEach xs X.env) (hp : (backTo pos (starEach xs X.env)).any (·.1) = false)
    {ps : List Str} (isd : c.g.par f = some ps) : SE X γ c (.Call (.Name f p) (x :: xs) [] pos) (.call f es (List.range' 0 es.length)) := fun Wx tk => by
  refine ⟨fun pins s σ H Q I ⟨W, ρ, m, r, hW, hr, h, out⟩ => ?_⟩
  obtain ⟨a, fd, D⟩ := o.defs f ps isd
  refine wpAny_Call_Name_kw (ld_glob I hl D.at_ ?_ hdb)
  refine PySem.W.callWith_K (h₀ := X.base) I.ok.mod.kin D.kp ?_ hs hp
  simp only [ev] at h
  have len : ∀ {ts m1}, evL c es ρ m = some (.ok ts m1) → ts.length = es.length := evL_length
  have t : tEL X.K γ c es Wx σ H (fun vs H1 => ∃ W1 ts m1, W.le W1 ∧ WOk X.K γ W1 m1 H1 ∧ RepTs X.K γ W1 ts vs ∧ c.call f ts m1 = some r ∧ OutE X.K γ W1 Wx σ r Q) := by
    cases he : evL c es ρ m with
    | none => rw [he] at h; cases h
    | some r1 =>
      rw [he] at h
      refine ⟨W, ρ, m, r1, hW, hr, he, ?_⟩
      cases r1 with
      | ex e m1 =>
        have h' : some (PY.R.ex e m1) = some r := h
        cases h'
        exact out
      | ok ts m1 =>
        have h' : (PY.pick ts (List.range' 0 es.length)).bind (fun us => c.call f us m1) = some r := h
        rw [← len he, pick_all] at h'
        exact fun vs H' W' l w q => ⟨W', ts, m1, l, w, q, h', out.mono l⟩
  refine thn ((ha Wx tk).run pos pins s σ H _ I t) fun us s1 ⟨vs, H1, I1, rv, W1, ts, m1, l1, w1, q1, h1, o1⟩ => ⟨I1.kIn, ?_⟩
  exact run_g o D tk I1 rv w1 q1 h1 o1 fun hl => .of_eq (bind_pos D.pd us hl)
/-- f() -/
theorem se_call0 (o : Ok X γ c k) (hl : Gl X f) (hdb : (f == ("__debug__" : Str)) = false) {ps : List Str} (isd : c.g.par f = some ps) : SE X γ c (.Call (.Name f p) [] [] pos) (.call f [] []) := fun Wx tk => by
  refine ⟨fun pins s σ H Q I ⟨W, ρ, m, r, hW, hr, h, out⟩ => ?_⟩
  obtain ⟨a, fd, D⟩ := o.defs f ps isd
  refine wpAny_Call_Name_kw (ld_glob I hl D.at_ ?_ hdb)
  simp only [ev, evL, bndL, PY.pick, Option.bind_some] at h
  exact PySem.W.callWith_K0 I.kIn D.kp (run_g o D tk I (vs := []) (us := []) (ts := []) .nil hW (show RepTs X.K γ W [] [] from rfl) h out fun hl => .of_eq (bind_pos D.pd [] hl))

/-! PyI -/
def SK (X : L2.Cx) (γ : Nm) (c : Cz) (ks : List Keyword) (es : List E) : Prop := ∀ Wx : WX, Takes X Wx → PK X ks (tEL X.K γ c es Wx)
theorem _root_.L2.PK.weak {X : L2.Cx} {x : List Keyword} {t t' : TA} (h : PK X x t) (i : ∀ σ H Q, t' σ H Q → t σ H Q) : PK X x t' := ⟨fun pos pins s σ H Q I q => h.run pos pins s σ H Q I (i σ H Q q)⟩
theorem sk_nil : SK X γ c [] [] := fun Wx _ => by
  refine pk_nil.weak fun σ H Q ⟨W, ρ, m, r, hW, hr, h, out⟩ => ?_
  simp only [evL, Option.some.injEq] at h
  subst h
  exact out [] H W (Wd.le_refl W) hW rfl
theorem sk_cons {ks : List Keyword} {e : E} {nm : Option Str} {kp : Pos} (ha : SE X γ c x e) (hb : SK X γ c ks es) : SK X γ c (⟨nm, x, kp⟩ :: ks) (e :: es) := fun Wx tk => by
  refine (pk_cons (ha Wx tk) (hb Wx tk)).weak fun σ H Q ⟨W, ρ, m, r, hW, hr, h, out⟩ => ?_
  simp only [evL] at h
  cases he : ev c e ρ m with
  | none => rw [he] at h; cases h
  | some r0 =>
    rw [he] at h
    refine ⟨W, ρ, m, r0, hW, hr, he, ?_⟩
    cases r0 with
    | ex e m1 =>
      have h' : some (RL.ex e m1) = some r := h
      cases h'
      exact out
    | ok t fr m1 =>
      intro v H' W' l w q
      obtain ⟨W2, l2, _, w2, q2⟩ := freeze w q
      have h : (match evL c es ρ m1 with
        | none => none
        | some (.ex e m2) => some (.ex e m2)
        | some (.ok ts m2) => some (RL.ok (t :: ts) m2)) = some r := h
      cases hl : evL c es ρ m1 with
      | none => rw [hl] at h; cases h
      | some r1 =>
        rw [hl] at h
        refine ⟨W2, ρ, m1, r1, w2, hr.mono (l.trans l2), hl, ?_⟩
        cases r1 with
        | ex e m2 =>
          have h' : some (RL.ex e m2) = some r := h
          cases h'
          exact out.mono (l.trans l2)
        | ok ts m2 =>
          have h' : some (RL.ok (t :: ts) m2) = some r := h
          cases h'
          exact fun vs H'' W'' l3 w3 q3 => out (v :: vs) H'' W'' ((l.trans l2).trans l3) w3 ⟨v, vs, rfl, q2.mono l3, q3⟩
/-- f(k = e, ..): every parameter by its name -/
theorem se_callK {kws : List Keyword} {ks : List Str} {ord : List Nat} (o : Ok X γ c k) (hl : Gl X f) (hdb : (f == ("__debug__" : Str)) = false) (ha : SK X γ c kws es)
    (hall : (backToKw pos (keywordEach kws X.env)).all (·.1.isSome) = true) (hks : (backToKw pos (keywordEach kws X.env)).filterMap (·.1) = ks) (hp : ((backTo pos (starEach [] X.env)).any (·.1) || (backToKw pos (keywordEach kws X.env)).any (·.1.isNone)) = false)
    (nd : ks.Nodup) (hle : ks.length = es.length) {ps : List Str} (isd : c.g.par f = some ps) (hpk : PY.pick ks ord = some ps ∧ ∀ k ∈ ks, k ∈ ps) : SE X γ c (.Call (.Name f p) [] kws pos) (.call f es ord) := fun Wx tk => by
  refine ⟨fun pins s σ H Q I ⟨W, ρ, m, r, hW, hr, h, out⟩ => ?_⟩
  obtain ⟨a, fd, D⟩ := o.defs f ps isd
  refine wpAny_Call_Name_kw (ld_glob I hl D.at_ ?_ hdb)
  refine PySem.W.callWith_KW0 (h₀ := X.base) I.ok.mod.kin D.kp hall ?_ hp
  simp only [ev] at h
  have t : tEL X.K γ c es Wx σ H (fun vs H1 => ∃ W1 ts us m1, W.le W1 ∧ ts.length = es.length ∧ WOk X.K γ W1 m1 H1 ∧ RepTs X.K γ W1 ts vs ∧ PY.pick ts ord = some us ∧ c.call f us m1 = some r ∧ OutE X.K γ W1 Wx σ r Q) := by
    cases he : evL c es ρ m with
    | none => rw [he] at h; cases h
    | some r1 =>
      rw [he] at h
      refine ⟨W, ρ, m, r1, hW, hr, he, ?_⟩
      cases r1 with
      | ex e m1 =>
        have h' : some (PY.R.ex e m1) = some r := h
        cases h'
        exact out
      | ok ts m1 =>
        have h' : (PY.pick ts ord).bind (fun us => c.call f us m1) = some r := h
        obtain ⟨us, h1, h2⟩ := Option.bind_eq_some_iff.mp h'
        exact fun vs H' W' l w q => ⟨W', ts, us, m1, l, evL_length he, w, q, h1, h2, out.mono l⟩
  refine thn ((ha Wx tk).run pos pins s σ H _ I t) fun us s1 ⟨vs, H1, I1, rv, W1, ts, us1, m1, l1, hlen, w1, q1, hp1, h1, o1⟩ => ⟨I1.kIn, ?_⟩
  obtain ⟨vs2, e2, q2⟩ := q1.picks hp1
  obtain ⟨us2, e3, rv2⟩ := vals_picks rv e2
  obtain ⟨g1, g2⟩ := hpk
  rw [hks]
  refine run_g o D tk I1 rv2 w1 q2 h1 o1 fun _ => .of_eq (bind_kw D.pd nd ?_ g2 g1 e3)
  rw [hle, ← hlen, ← q1.length, rv.length]
/-- g(e, ..), g a local name that holds a def -/
theorem se_cloc {i : Nat} {n : Str} (o : Ok X γ c k) (hN : X.N[i]? = some n) (hv : Vis X.env.scope n) (hdb : (n == ("__debug__" : Str)) = false) (hcd : (n == ("__classdict__" : Str)) = false) (ha : SL X γ c (x :: xs) es)
    (hs : starEach (x :: xs) X.env = (false, eval x X.env) :: starEach xs X.env) (hp : (backTo pos (starEach xs X.env)).any (·.1) = false) (isd : ∀ f a, γ.fad f = some a → ∃ ps, c.g.par f = some ps) :
    SE X γ c (.Call (.Name n p) (x :: xs) [] pos) (.cloc i es) := fun Wx tk => by
  refine ⟨fun pins s σ H Q I ⟨W, ρ, m, r, hW, hr, h, out⟩ => ?_⟩
  simp only [ev, Option.bind_eq_some_iff] at h
  obtain ⟨t0, ht0, h⟩ := h
  simp only [getV, Option.bind_eq_some_iff, id] at ht0
  obtain ⟨_, ht1, rfl⟩ := ht0
  obtain ⟨v0, ev0, q0⟩ := hr.get i t0 ht1
  cases t0 with
  | loc n => cases h
  | val d =>
    cases d with
    | fn f =>
      simp only at h
      simp only [RepT, Rep] at q0
      obtain ⟨a, rfl, ha0⟩ := q0
      obtain ⟨ps, h0⟩ := isd f a ha0
      obtain ⟨a', fd, D⟩ := o.defs f ps h0
      have ea := D.fad
      rw [ha0] at ea; cases ea
      refine wpAny_Call_Name_kw (thn ((pe_var (pos := p) hN hv hdb hcd).run pins s σ H (fun v H1 => v = .ref a ∧ H1 = H) I ⟨.ref a, ev0, rfl, rfl⟩) fun u s1 ⟨v, H1, I1, r1, e1, e2⟩ => ?_)
      subst e1 e2
      cases r1
      refine PySem.W.callWith_K (h₀ := X.base) I.ok.mod.kin D.kp ?_ hs hp
      have t : tEL X.K γ c es Wx σ H1 (fun vs H1 => ∃ W1 ts m1, W.le W1 ∧ WOk X.K γ W1 m1 H1 ∧ RepTs X.K γ W1 ts vs ∧ c.call f ts m1 = some r ∧ OutE X.K γ W1 Wx σ r Q) :=
        tEL_bnd hW hr h out fun vs H1 W1 ts m1 l w _ q h o => ⟨W1, ts, m1, l, w, q, h, o⟩
      refine thn ((ha Wx tk).run pos pins s1 σ H1 _ I1 t) fun us s1 ⟨vs, H1, I1, rv, W1, ts, m1, l1, w1, q1, h1, o1⟩ => ⟨I1.kIn, ?_⟩
      exact run_g o D tk I1 rv w1 q1 h1 o1 fun hl => .of_eq (bind_pos D.pd us hl)
    | _ => cases h
/-- a def as a value -/
theorem se_fn (o : Ok X γ c k) (hl : Gl X f) (hdb : (f == ("__debug__" : Str)) = false) {ps : List Str} (isd : c.g.par f = some ps) : SE X γ c (.Name f pos) (.con (.fn f)) := fun Wx _ => by
  obtain ⟨a, fd, D⟩ := o.defs f ps isd
  refine (pe_glob (v := .ref a) (pos := pos) hl D.at_ rfl hdb).weak fun σ H Q ⟨W, ρ, m, r, hW, hr, h, out⟩ => ?_
  simp only [ev] at h
  exact (vl_get h out).old hW (by simp only [Rep]; exact ⟨a, rfl, D.fad⟩)
end
end PY

set_option Elab.async false
set_option linter.all false
set_option maxRecDepth 100000
/-! PyH -/
namespace PY
open PySem PySem.Spec PyProof.Rows L2

section
variable {X : L2.Cx} {γ : Nm} {c : Cz} {x y z : Expr} {a b e : E} {pos p2 : Pos}
theorem okL_of {x : Option RL} {k : List T → Mu → Option R} {r : R} (h : okL x k = some r) : ∃ ts m, x = some (.ok ts m) ∧ k ts m = some r := by
  cases x with
  | none => cases h
  | some r0 => cases r0 with
    | ok ts m => exact ⟨ts, m, rfl, h⟩
    | ex e m => cases h
theorem evL_one {e : E} {ρ : Rho} {m m' : Mu} {ts : List T} (h : evL c [e] ρ m = some (.ok ts m')) : ∃ t f, ts = [t] ∧ ev c e ρ m = some (.ok t f m') := by
  rw [evL] at h
  cases he : ev c e ρ m with
  | none => rw [he] at h; cases h
  | some r0 =>
    rw [he] at h
    cases r0 with
    | ex e m => cases h
    | ok t f m1 => simp only [evL, Option.some.injEq, RL.ok.injEq] at h; obtain ⟨rfl, rfl⟩ := h; exact ⟨t, f, rfl, rfl⟩
theorem evL_two {e e' : E} {ρ : Rho} {m m' : Mu} {ts : List T} (h : evL c [e, e'] ρ m = some (.ok ts m')) : ∃ t f t' f' m1, ts = [t, t'] ∧ ev c e ρ m = some (.ok t f m1) ∧ ev c e' ρ m1 = some (.ok t' f' m') := by
  rw [evL] at h
  cases he : ev c e ρ m with
  | none => rw [he] at h; cases h
  | some r0 =>
    rw [he] at h
    cases r0 with
    | ex e m => cases h
    | ok t f m1 =>
      cases hl : evL c [e'] ρ m1 with
      | none => simp only [hl] at h; cases h
      | some r1 =>
        simp only [hl] at h
        cases r1 with
        | ex e m => cases h
        | ok ts m2 =>
          simp only [Option.some.injEq, RL.ok.injEq] at h
          obtain ⟨rfl, rfl⟩ := h
          obtain ⟨t', f', rfl, h'⟩ := evL_one hl
          exact ⟨t, f, t', f', m1, rfl, rfl, h'⟩
section
variable {K : PySem.W.Frag} {W W1 : Wd} {m : Mu} {H : Hp} {ρ : Rho} {σ : L2.St} {Wx : WX} {Q : VK}
/-- an expression that raises nothing -/
theorem tE_ok {e1 : E} {t : T} {f : Bool} {m1 : Mu} (hW : WOk K γ W m H) (hr : RhoOk K γ W ρ σ) (h : ev c e1 ρ m = some (.ok t f m1))
    {R : V → Hp → Prop} (go : ∀ x H1 W1, W.le W1 → WOk K γ W1 m1 H1 → RhoOk K γ W1 ρ σ → RepT K γ W1 t x → R x H1) : tE K γ c e1 Wx σ H R := by
  refine ⟨W, ρ, m, _, hW, hr, h, fun v H' W' l w q => ?_⟩
  obtain ⟨W2, l2, _, w2, q2⟩ := freeze w q
  exact go v H' W2 (l.trans l2) w2 (hr.mono (l.trans l2)) q2
theorem vals_one {t : T} {ds : List D} (h : valsT [t] = some ds) : ∃ d, t = .val d ∧ ds = [d] := by
  cases t with
  | val d => simp only [valsT, Option.map_some, Option.some.injEq] at h; exact ⟨d, rfl, h.symm⟩
  | loc n => cases h
theorem vals_two {t u : T} {ds : List D} (h : valsT [t, u] = some ds) : ∃ d e, t = .val d ∧ u = .val e ∧ ds = [d, e] := by
  cases t with
  | val d =>
    cases u with
    | val e => simp only [valsT, Option.map_some, Option.some.injEq] at h; exact ⟨d, e, rfl, rfl, h.symm⟩
    | loc n => cases h
  | loc n => cases h
end
theorem slcB_int1 {l h : Bool} {d t : D} {p} (e : slcB l h d [t] = some p) : ∃ i, t = .int i := by
  cases t <;> cases l <;> cases h <;> first | exact ⟨_, rfl⟩ | cases e
theorem slcB_int2 {l h : Bool} {d t u : D} {p} (e : slcB l h d [t, u] = some p) : (∃ i, t = .int i) ∧ ∃ j, u = .int j := by
  cases t <;> cases u <;> cases l <;> cases h <;> first | exact ⟨⟨_, rfl⟩, _, rfl⟩ | cases e
theorem se_slc00 (ha : SE X γ c x a) : SE X γ c (.Subscript x (.Slice none none none p2) pos) (.slc false false a []) := fun Wx tk => by
  refine (pe_slice (pos := pos) (p2 := p2) (slc_ok (γ := γ)) (ha Wx tk) po_none po_none).weak fun σ H Q ⟨W, ρ, m, r, hW, hr, h, out⟩ => ?_
  simp only [ev, evL, okL, valsT, Option.bind_some] at h
  refine tE_bnd hW hr h out fun u H1 W1 t m1 l1 w1 r1 q1 h out => ?_
  simp only [Option.bind_eq_some_iff] at h
  obtain ⟨d1, e1, h⟩ := h
  cases hp : slcB false false d1 [] with
  | none => rw [hp] at h; cases h
  | some p =>
    rw [hp] at h
    exact ⟨W1, m1, d1, .non, .non, p, rfl, rfl, w1, w1.rd q1 e1, hp, giv_get h out⟩
theorem se_slc10 (ha : SE X γ c x a) (hb : SE X γ c y b) : SE X γ c (.Subscript x (.Slice (some y) none none p2) pos) (.slc true false a [b]) := fun Wx tk => by
  refine (pe_slice (pos := pos) (p2 := p2) (slc_ok (γ := γ)) (ha Wx tk) (po_some (hb Wx tk)) po_none).weak fun σ H Q ⟨W, ρ, m, r, hW, hr, h, out⟩ => ?_
  simp only [ev] at h
  refine tE_bnd hW hr h out fun u H1 W1 t m1 l1 w1 r1 q1 h out => ?_
  obtain ⟨ts, m2, h1, h⟩ := okL_of h
  obtain ⟨t2, f2, rfl, h2⟩ := evL_one h1
  refine tE_ok w1 r1 h2 fun v H2 W2 l2 w2 r2 q2 => ?_
  simp only [Option.bind_eq_some_iff] at h
  obtain ⟨d1, e1, ds, e2, h⟩ := h
  obtain ⟨d2, rfl, rfl⟩ := vals_one e2
  cases hp : slcB true false d1 [d2] with
  | none => rw [hp] at h; cases h
  | some p =>
    rw [hp] at h
    obtain ⟨i, rfl⟩ := slcB_int1 hp
    have n2 : v = .int i := by simpa [RepT, Rep] using q2
    exact ⟨i, n2, W2, m2, d1, .int i, .non, p, rfl, rfl, w2, w2.rd (q1.mono l2) e1, hp, giv_get h (out.mono l2)⟩
theorem se_slc01 (ha : SE X γ c x a) (hb : SE X γ c y b) : SE X γ c (.Subscript x (.Slice none (some y) none p2) pos) (.slc false true a [b]) := fun Wx tk => by
  refine (pe_slice (pos := pos) (p2 := p2) (slc_ok (γ := γ)) (ha Wx tk) po_none (po_some (hb Wx tk))).weak fun σ H Q ⟨W, ρ, m, r, hW, hr, h, out⟩ => ?_
  simp only [ev] at h
  refine tE_bnd hW hr h out fun u H1 W1 t m1 l1 w1 r1 q1 h out => ?_
  obtain ⟨ts, m2, h1, h⟩ := okL_of h
  obtain ⟨t2, f2, rfl, h2⟩ := evL_one h1
  refine tE_ok w1 r1 h2 fun v H2 W2 l2 w2 r2 q2 => ?_
  simp only [Option.bind_eq_some_iff] at h
  obtain ⟨d1, e1, ds, e2, h⟩ := h
  obtain ⟨d2, rfl, rfl⟩ := vals_one e2
  cases hp : slcB false true d1 [d2] with
  | none => rw [hp] at h; cases h
  | some p =>
    rw [hp] at h
    obtain ⟨i, rfl⟩ := slcB_int1 hp
    have n2 : v = .int i := by simpa [RepT, Rep] using q2
    exact ⟨i, n2, W2, m2, d1, .non, .int i, p, rfl, rfl, w2, w2.rd (q1.mono l2) e1, hp, giv_get h (out.mono l2)⟩
theorem se_slc11 (ha : SE X γ c x a) (hb : SE X γ c y b) (he : SE X γ c z e) : SE X γ c (.Subscript x (.Slice (some y) (some z) none p2) pos) (.slc true true a [b, e]) := fun Wx tk => by
  refine (pe_slice (pos := pos) (p2 := p2) (slc_ok (γ := γ)) (ha Wx tk) (po_some (hb Wx tk)) (po_some (he Wx tk))).weak fun σ H Q ⟨W, ρ, m, r, hW, hr, h, out⟩ => ?_
  simp only [ev] at h
  refine tE_bnd hW hr h out fun u H1 W1 t m1 l1 w1 r1 q1 h out => ?_
  obtain ⟨ts, m2, h1, h⟩ := okL_of h
  obtain ⟨t2, f2, t3, f3, m3, rfl, h2, h3⟩ := evL_two h1
  simp only [Option.bind_eq_some_iff] at h
  obtain ⟨d1, e1, ds, e2, h⟩ := h
  obtain ⟨d2, d3, rfl, rfl, rfl⟩ := vals_two e2
  cases hp : slcB true true d1 [d2, d3] with
  | none => rw [hp] at h; cases h
  | some p =>
    rw [hp] at h
    obtain ⟨⟨i, rfl⟩, j, rfl⟩ := slcB_int2 hp
    refine tE_ok w1 r1 h2 fun v H2 W2 l2 w2 r2 q2 => ⟨i, by simpa [RepT, Rep] using q2, ?_⟩
    refine tE_ok w2 r2 h3 fun v3 H3 W3 l3 w3 r3 q3 => ⟨j, by simpa [RepT, Rep] using q3, ?_⟩
    exact ⟨W3, m2, d1, .int i, .int j, p, rfl, rfl, w3, w3.rd (q1.mono (l2.trans l3)) e1, hp, giv_get h (out.mono (l2.trans l3))⟩

/-! PyH -/
theorem st_val (ha : SE X γ c x a) (he : ∀ whole, isTrue x X.env whole = (do let v ← whole; standAt x.pos; holding [v] (truthy v))) : ST X γ c x a := fun Wx tk => by
  refine (pt_truth (ha Wx tk) he).weak fun σ H Q ⟨W, ρ, m, r, hW, hr, h, out⟩ => ⟨W, ρ, m, r, hW, hr, h, ?_⟩
  cases r with
  | ex e m1 => exact out
  | ok t f m1 =>
    obtain ⟨d, k, e1, e2, go⟩ := out
    intro v H' W' l w q
    obtain ⟨W2, l2, _, w2, q2⟩ := freeze w q
    exact ⟨k, truth_V w2 (w2.rd q2 e1) e2, go H' W2 (l.trans l2) w2⟩
theorem vl_bl {K : PySem.W.Frag} {W : Wd} {m : Mu} {Wx : WX} {σ : L2.St} {k : Bool} {r : R} {Q : Bool → Hp → Prop} {H : Hp} (h : vl (.bl k) m = some r) (out : OutT K γ W Wx σ r Q) (w : WOk K γ W m H) : Q k H := by
  have h' : some (R.ok (.val (.bl k)) false m) = some r := h
  cases h'
  obtain ⟨d, b, e1, e2, go⟩ := out
  cases e1
  cases e2
  exact go H W (Wd.le_refl W) w
theorem st_not (ha : ST X γ c x a) : ST X γ c (.UnaryOp .Not x pos) (.not a) := fun Wx tk => by
  refine (pt_not (pos := pos) (ha Wx tk)).weak fun σ H Q ⟨W, ρ, m, r, hW, hr, h, out⟩ => ?_
  simp only [ev] at h
  refine tT_step hW hr h (fun e m1 e1 => by subst e1; exact out) (fun t m1 h => ?_) fun k H1 W1 t d m1 l1 w1 r1 e1 e2 h => ?_
  · simp only [Option.bind_eq_some_iff] at h
    obtain ⟨d1, e1, k, e2, h⟩ := h
    exact ⟨d1, k, e1, e2⟩
  · simp only [e1, e2, Option.bind_some] at h
    exact vl_bl h (out.mono l1) w1
theorem st_ife (hc : ST X γ c z e) (ha : ST X γ c x a) (hb : ST X γ c y b) : ST X γ c (.IfExp z x y pos) (.ife e a b) := fun Wx tk => by
  refine ⟨fun pins s σ H Q I ⟨W, ρ, m, r, hW, hr, h, out⟩ => ?_⟩
  simp only [ev] at h
  have ht : tT X.K γ c e Wx σ H (fun k H1 => ∃ W1 m1, WOk X.K γ W1 m1 H1 ∧ RhoOk X.K γ W1 ρ σ ∧ (if k = true then ev c a ρ m1 else ev c b ρ m1) = some r ∧ OutT X.K γ W1 Wx σ r Q) := by
    refine tT_step hW hr h (fun e m1 e1 => by subst e1; exact out) (fun t m1 h => ?_) fun k H1 W1 t d m1 l1 w1 r1 e1 e2 h => ?_
    · simp only [Option.bind_eq_some_iff] at h
      obtain ⟨d1, e1, k, e2, h⟩ := h
      exact ⟨d1, k, e1, e2⟩
    · simp only [e1, e2, Option.bind_some] at h
      exact ⟨W1, m1, w1, r1, h, out.mono l1⟩
  rw [PySem.isTrue]
  refine wpAny_bind (thn ((hc Wx tk).run pins s σ H _ I ht) fun k s1 ⟨H1, I1, W1, m1, w1, r1, h1, o1⟩ => ?_)
  cases k with
  | true => exact (ha Wx tk).run pins s1 σ H1 Q I1 ⟨W1, ρ, m1, r, w1, r1, h1, o1⟩
  | false => exact (hb Wx tk).run pins s1 σ H1 Q I1 ⟨W1, ρ, m1, r, w1, r1, h1, o1⟩
/-- a test of and, or -/
def SW (X : L2.Cx) (γ : Nm) (c : Cz) (x : Expr) (e : E) : Prop := ∀ Wx : WX, Takes X Wx → PW X x (tT X.K γ c e Wx)
theorem SW.st (h : SW X γ c x a) : ST X γ c x a := fun Wx tk => (h Wx tk).pt
theorem _root_.L2.PW.weak {X : L2.Cx} {x : Expr} {t t' : TT} (h : PW X x t) (i : ∀ σ H Q, t' σ H Q → t σ H Q) : PW X x t' := ⟨fun wh pins s σ H Q I q => h.run wh pins s σ H Q I (i σ H Q q)⟩
theorem sw_one {op : PySem.BoolOp} (ha : ST X γ c x a) : SW X γ c (.BoolOp op [x] pos) a := fun Wx tk => by
  cases op with
  | And => exact pw_and1 (ha Wx tk)
  | Or => exact pw_or1 (ha Wx tk)
theorem sw_and {rest : List Expr} (ha : ST X γ c x a) (hb : SW X γ c (.BoolOp .And (y :: rest) pos) b) : SW X γ c (.BoolOp .And (x :: y :: rest) pos) (.and a b) := fun Wx tk => by
  refine (pw_and (ha Wx tk) (hb Wx tk)).weak fun σ H Q ⟨W, ρ, m, r, hW, hr, h, out⟩ => ?_
  simp only [ev] at h
  refine tT_step hW hr h (fun e m1 e1 => by subst e1; exact out) (fun t m1 h => ?_) fun k H1 W1 t d m1 l1 w1 r1 e1 e2 h => ?_
  · simp only [Option.bind_eq_some_iff] at h
    obtain ⟨d1, e1, k, e2, h⟩ := h
    exact ⟨d1, k, e1, e2⟩
  · simp only [e1, e2, Option.bind_some] at h
    cases k with
    | true => exact ⟨W1, ρ, m1, r, w1, r1, h, out.mono l1⟩
    | false =>
      have h' : some (R.ok t false m1) = some r := h
      cases h'
      obtain ⟨d', b', e3, e4, go⟩ := out
      rw [e1] at e3; cases e3
      rw [e2] at e4; cases e4
      exact go H1 W1 l1 w1
theorem sw_or {rest : List Expr} (ha : ST X γ c x a) (hb : SW X γ c (.BoolOp .Or (y :: rest) pos) b) : SW X γ c (.BoolOp .Or (x :: y :: rest) pos) (.or a b) := fun Wx tk => by
  refine (pw_or (ha Wx tk) (hb Wx tk)).weak fun σ H Q ⟨W, ρ, m, r, hW, hr, h, out⟩ => ?_
  simp only [ev] at h
  refine tT_step hW hr h (fun e m1 e1 => by subst e1; exact out) (fun t m1 h => ?_) fun k H1 W1 t d m1 l1 w1 r1 e1 e2 h => ?_
  · simp only [Option.bind_eq_some_iff] at h
    obtain ⟨d1, e1, k, e2, h⟩ := h
    exact ⟨d1, k, e1, e2⟩
  · simp only [e1, e2, Option.bind_some] at h
    cases k with
    | false => exact ⟨W1, ρ, m1, r, w1, r1, h, out.mono l1⟩
    | true =>
      have h' : some (R.ok t false m1) = some r := h
      cases h'
      obtain ⟨d', b', e3, e4, go⟩ := out
      rw [e1] at e3; cases e3
      rw [e2] at e4; cases e4
      exact go H1 W1 l1 w1
theorem st_cmp (hu : X.A.units + 64 < cLine) {op : CmpOp} (ha : SE X γ c x a) (hb : SE X γ c y b) (hm : behindInMarks op y = false) : ST X γ c (.Compare x [op] [y] pos) (.cmp op a b) := fun Wx tk => by
  refine (pt_cmpR (pos := pos) (cop_ok (γ := γ) hu op) (ha Wx tk) (hb Wx tk) hm).weak fun σ H Q ⟨W, ρ, m, r, hW, hr, h, out⟩ => ?_
  simp only [ev] at h
  refine tE_bndT hW hr h out fun u H1 W1 t m1 l1 w1 r1 q1 h out => ?_
  refine tE_bndT w1 r1 h out fun v H2 W2 t2 m2 l2 w2 r2 q2 h out => ?_
  simp only [Option.bind_eq_some_iff] at h
  obtain ⟨d1, e1, d2, e2, k, e3, h⟩ := h
  exact ⟨W2, m2, d1, d2, k, w2, w2.rd (q1.mono l2) e1, w2.rd q2 e2, e3, k, rfl, vl_bl h out w2⟩
theorem st_chn (hu : X.A.units + 64 < cLine) {op op' : CmpOp} (ha : SE X γ c x a) (hb : SE X γ c y b) (he : SE X γ c z e) (hm : lastMarks [op, op'] [y, z] = false) : ST X γ c (.Compare x [op, op'] [y, z] pos) (.chn op op' a b e) := fun Wx tk => by
  refine (pt_chain (pos := pos) (cop_ok (γ := γ) hu op) (cop_ok (γ := γ) hu op') (ha Wx tk) (hb Wx tk) (he Wx tk) hm).weak fun σ H Q ⟨W, ρ, m, r, hW, hr, h, out⟩ => ?_
  simp only [ev] at h
  refine tE_bndT hW hr h out fun u H1 W1 t m1 l1 w1 r1 q1 h out => ?_
  refine tE_bndT w1 r1 h out fun v H2 W2 t2 m2 l2 w2 r2 q2 h out => ?_
  simp only [Option.bind_eq_some_iff] at h
  obtain ⟨d1, e1, d2, e2, k, e3, h⟩ := h
  refine ⟨W2, m2, d1, d2, k, w2, w2.rd (q1.mono l2) e1, w2.rd q2 e2, e3, k, rfl, ?_⟩
  cases k with
  | false => exact ⟨false, rfl, vl_bl h out w2⟩
  | true =>
    have h := h
    rw [if_pos rfl] at h ⊢
    refine tE_bndT w2 r2 h out fun w H3 W3 t3 m3 l3 w3 r3 q3 h out => ?_
    simp only [Option.bind_eq_some_iff] at h
    obtain ⟨d4, e4, d5, e5, k2, e6, h⟩ := h
    exact ⟨W3, m3, d4, d5, k2, w3, w3.rd (q2.mono l3) e4, w3.rd q3 e5, e6, k2, rfl, vl_bl h out w3⟩
end
end PY

set_option Elab.async false
set_option linter.all false
set_option maxRecDepth 100000
/-! PyJ -/
namespace PY
open PySem PySem.Spec PyProof.Rows L2

/-! PyJ -/
section
variable {X : L2.Cx} {γ : Nm} {c : Cz} {k : Nat} {x : Expr} {xs : List Expr} {es : List E} {f : Str} {p pos : Pos}
theorem tEL_blt {b : Bt} {Wx : WX} {σ : L2.St} {H : Hp} {Q : VK} (h : tE X.K γ c (.blt b es) Wx σ H Q) : tCB (rL X.K γ (blt b)) (tEL X.K γ c es Wx) σ H Q := by
  obtain ⟨W, ρ, m, r, hW, hr, h, out⟩ := h
  simp only [ev] at h
  refine tEL_bnd hW hr h out fun vs H1 W1 ts m1 l1 w1 r1 q1 h out => ?_
  simp only [Option.bind_eq_some_iff] at h
  obtain ⟨ds, e1, h⟩ := h
  cases hp : blt b ds with
  | none => rw [hp] at h; cases h
  | some p =>
    rw [hp] at h
    exact ⟨W1, m1, ds, p, w1, q1.rds w1 e1, hp, giv_get h out⟩
theorem se_bltB {b : Bt} {id : String} (hc : CallR X (.builtin id) (rL X.K γ (blt b))) (hg : Gl X f) (hm : X.mg f = none) (hv : bootBuiltins f = some (.builtin id)) (hn : f ≠ "__name__") (hdb : (f == ("__debug__" : Str)) = false) (ha : SL X γ c (x :: xs) es)
    (hs : starEach (x :: xs) X.env = (false, eval x X.env) :: starEach xs X.env) (hp : (backTo pos (starEach xs X.env)).any (·.1) = false) : SE X γ c (.Call (.Name f p) (x :: xs) [] pos) (.blt b es) := fun Wx tk =>
  (pe_callB (p := p) (pos := pos) hc hg hm hv (ha Wx tk) hn hdb hs hp).weak fun _ _ _ h => tEL_blt h
theorem se_bltT {b : Bt} {id : String} (hc : CallR X (.type id) (rL X.K γ (blt b))) (hg : Gl X f) (hm : X.mg f = none) (hv : bootBuiltins f = some (.type id)) (hn : f ≠ "__name__") (hdb : (f == ("__debug__" : Str)) = false) (ha : SL X γ c (x :: xs) es)
    (hs : starEach (x :: xs) X.env = (false, eval x X.env) :: starEach xs X.env) (hp : (backTo pos (starEach xs X.env)).any (·.1) = false) : SE X γ c (.Call (.Name f p) (x :: xs) [] pos) (.blt b es) := fun Wx tk =>
  (pe_callTy (p := p) (pos := pos) hc hg hm hv (ha Wx tk) hn hdb hs hp).weak fun _ _ _ h => tEL_blt h
/-- nothing is told of it -/
theorem se_bad {e : E} (h : ∀ ρ m, ev c e ρ m = none) : SE X γ c x e := fun Wx _ => ⟨fun pins s σ H Q I ⟨W, ρ, m, r, hW, hr, e1, out⟩ => by rw [h] at e1; cases e1⟩
end

/-! PyJ -/
/-- the cell's content stands -/
def stay (m : Mu) (ds : List D) : Option Nat → Prop
  | none => True
  | some n => m[n]? = some (.lst ds)
/-- the world grew, its first n cells stand where they stood -/
structure Wd.lef (n : Nat) (W W' : Wd) : Prop where
  z : ∀ a o, W.z a = some o → W'.z a = some o
  f : ∀ j a, j < n → W.f j = some a → W'.f j = some a
theorem Wd.lef_refl (n : Nat) (W : Wd) : W.lef n W := ⟨fun _ _ h => h, fun _ _ _ h => h⟩
theorem Wd.lef.trans {n : Nat} {A B C : Wd} (h : A.lef n B) (h' : B.lef n C) : A.lef n C := ⟨fun a o e => h'.1 a o (h.1 a o e), fun j a hj e => h'.2 j a hj (h.2 j a hj e)⟩
theorem Wd.le.lef {A B : Wd} (n : Nat) (h : A.le B) : A.lef n B := ⟨h.1, fun j a _ e => h.2 j a e⟩
theorem Wd.lef.mono {n n' : Nat} {A B : Wd} (h : A.lef n' B) (hn : n ≤ n') : A.lef n B := ⟨h.1, fun j a hj e => h.2 j a (Nat.lt_of_lt_of_le hj hn) e⟩
/-- the iterator J goes through ds -/
structure Iters (K : PySem.W.Frag) (γ : Nm) (W0 : Wd) (ds : List D) (a : Option Nat) (J : It) : Prop where
  go : ∀ W m H i, W0.lef (lock 0 a) W → WOk K γ W m H → stay m ds a → i < ds.length → J.go i H
  yld : ∀ W m H i x H', W0.lef (lock 0 a) W → WOk K γ W m H → stay m ds a → i < ds.length → J.yld i H x H' → ∃ d W', ds[i]? = some d ∧ W.le W' ∧ WOk K γ W' m H' ∧ Rep K γ W' d x
  stop : ∀ W m H i, W0.lef (lock 0 a) W → WOk K γ W m H → stay m ds a → ds.length ≤ i → J.stop i H
def OutI (K : PySem.W.Frag) (γ : Nm) (W : Wd) (Wx : WX) (σ : L2.St) (r : RI) (R : It → Hp → Prop) : Prop :=
  match r with
  | .ok ds a m => ∀ J H' W', W.le W' → WOk K γ W' m H' → stay m ds a → Iters K γ W' ds a J → R J H'
  | .ex e m => ∀ cls da H' W', W.le W' → WOk K γ W' m H' → RepX K γ W' e cls da → Wx cls da σ H'
def tI (K : PySem.W.Frag) (γ : Nm) (c : Cz) (e : E) (Wx : WX) : TI := fun σ H R =>
  ∃ W ρ m r, WOk K γ W m H ∧ RhoOk K γ W ρ σ ∧ evI c e ρ m = some r ∧ OutI K γ W Wx σ r R
def SI (X : L2.Cx) (γ : Nm) (c : Cz) (tg x : Expr) (e : E) : Prop := ∀ Wx : WX, Takes X Wx → PI X tg x (tI X.K γ c e Wx)
section
variable {K : PySem.W.Frag} {γ : Nm} {W W' : Wd} {m : Mu} {H : Hp}
mutual
theorem Rep.zz (l : ∀ a o, W.z a = some o → W'.z a = some o) : ∀ {d : D} {v : V}, Rep K γ W d v → Rep K γ W' d v
  | .non, _, h => by simpa [Rep] using h
  | .bl _, _, h => by simpa [Rep] using h
  | .int _, _, h => by simpa [Rep] using h
  | .str _, _, h => by simpa [Rep] using h
  | .tup xs, v, h => by
    simp only [Rep] at h ⊢
    obtain ⟨a, vs, e, t, r⟩ := h
    exact ⟨a, vs, e, t.imp (l _ _) id, Reps.zz l r⟩
  | .lst xs, v, h => by
    simp only [Rep] at h ⊢
    obtain ⟨a, vs, e, t, r⟩ := h
    exact ⟨a, vs, e, t.imp (l _ _) fun ⟨o, e⟩ => ⟨o, l _ _ e⟩, Reps.zz l r⟩
  | .dic _ _, _, h => by simp [Rep] at h
  | .st _, _, h => by simp [Rep] at h
  | .exc c d, v, h => by
    simp only [Rep] at h ⊢
    obtain ⟨a, da, C, v', e, c1, c2, c3, r⟩ := h
    exact ⟨a, da, C, v', e, c1, l _ _ c2, l _ _ c3, Rep.zz l r⟩
  | .fn x, v, h => by simpa [Rep] using h
theorem Reps.zz (l : ∀ a o, W.z a = some o → W'.z a = some o) : ∀ {ds : List D} {vs : List V}, Reps K γ W ds vs → Reps K γ W' ds vs
  | [], _, h => by simpa [Reps] using h
  | d :: ds, vs, h => by
    simp only [Reps] at h ⊢
    obtain ⟨v, r, e, h1, h2⟩ := h
    exact ⟨v, r, e, Rep.zz l h1, Reps.zz l h2⟩
end
theorem LstAt.sq {a : Addr} {vs : List V} (h : WOk K γ W m H) (t : LstAt K W a vs) : SqL K H a vs := t.elim (fun e => .inl (.inl (h.z _ _ e))) fun ⟨o, e⟩ => .inl (.inr ⟨o, h.z _ _ e⟩)
/-- a frozen list -/
theorem iters_lst {a : Addr} {vs : List V} {xs : List D} (t : LstAt K W a vs) (q : Reps K γ W xs vs) : Iters K γ W xs none (Itl K a) where
  go := fun W1 m1 H1 i l w _ hi => by
    have hv : i < vs.length := by rw [q.length]; exact hi
    exact ⟨vs, vs[i], LstAt.sq w (t.imp (l.1 _ _) fun ⟨o, e⟩ => ⟨o, l.1 _ _ e⟩), by simp [hv]⟩
  yld := fun W1 m1 H1 i x H' l w _ hi h => by
    obtain ⟨rfl, h2⟩ := h
    obtain ⟨d, e1, r1⟩ := (q.zz l.1).getV (h2 vs (LstAt.sq w (t.imp (l.1 _ _) fun ⟨o, e⟩ => ⟨o, l.1 _ _ e⟩)))
    exact ⟨d, W1, e1, Wd.le_refl _, w, r1⟩
  stop := fun W1 m1 H1 i l w _ hi => ⟨vs, LstAt.sq w (t.imp (l.1 _ _) fun ⟨o, e⟩ => ⟨o, l.1 _ _ e⟩), by rw [q.length]; exact hi⟩
theorem iters_tup {a : Addr} {vs : List V} {xs : List D} (t : TupAt K W a vs) (q : Reps K γ W xs vs) : Iters K γ W xs none (Itt K a) where
  go := fun W1 m1 H1 i l w _ hi => by
    have hv : i < vs.length := by rw [q.length]; exact hi
    exact ⟨vs, vs[i], w.sqT (t.imp (l.1 _ _) id), by simp [hv]⟩
  yld := fun W1 m1 H1 i x H' l w _ hi h => by
    obtain ⟨rfl, h2⟩ := h
    obtain ⟨d, e1, r1⟩ := (q.zz l.1).getV (h2 vs (w.sqT (t.imp (l.1 _ _) id)))
    exact ⟨d, W1, e1, Wd.le_refl _, w, r1⟩
  stop := fun W1 m1 H1 i l w _ hi => ⟨vs, w.sqT (t.imp (l.1 _ _) id), by rw [q.length]; exact hi⟩
/-- a cell's list -/
theorem iters_loc {n : Nat} {a : Addr} {xs : List D} (f : W.f n = some a) : Iters K γ W xs (some n) (Itl K a) where
  go := fun W1 m1 H1 i l w st hi => by
    obtain ⟨a', f2, q⟩ := w.c n _ st
    rw [l.2 n a (by simp [lock]) f] at f2; cases f2
    obtain ⟨⟨vs, e, r⟩, _⟩ := q
    have hv : i < vs.length := by rw [r.length]; exact hi
    exact ⟨vs, vs[i], .inl (.inl e), by simp [hv]⟩
  yld := fun W1 m1 H1 i x H' l w st hi h => by
    obtain ⟨a', f2, q⟩ := w.c n _ st
    rw [l.2 n a (by simp [lock]) f] at f2; cases f2
    obtain ⟨⟨vs, e, r⟩, _⟩ := q
    obtain ⟨rfl, h2⟩ := h
    obtain ⟨d, e1, r1⟩ := r.getV (h2 vs (.inl (.inl e)))
    exact ⟨d, W1, e1, Wd.le_refl _, w, r1⟩
  stop := fun W1 m1 H1 i l w st hi => by
    obtain ⟨a', f2, q⟩ := w.c n _ st
    rw [l.2 n a (by simp [lock]) f] at f2; cases f2
    obtain ⟨⟨vs, e, r⟩, _⟩ := q
    exact ⟨vs, .inl (.inl e), by rw [r.length]; exact hi⟩
theorem rngL_get : ∀ (n : Nat) (lo : Int) (i : Nat), i < n → (rngL lo n)[i]? = some (.int (lo + i))
  | 0, _, _, h => absurd h (Nat.not_lt_zero _)
  | n + 1, lo, 0, _ => by simp [rngL]
  | n + 1, lo, i + 1, h => by
    rw [rngL, List.getElem?_cons_succ, rngL_get n (lo + 1) i (by omega)]
    congr 2
    push_cast
    omega
theorem rngL_len : ∀ (n : Nat) (lo : Int), (rngL lo n).length = n
  | 0, _ => rfl
  | n + 1, lo => by rw [rngL, List.length_cons, rngL_len n]
theorem iters_rng {lo : Int} {n : Nat} : Iters K γ W (rngL lo n) none (Itr lo n) where
  go := fun W1 m1 H1 i l w st hi => by rw [rngL_len] at hi; exact hi
  yld := fun W1 m1 H1 i x H' l w st hi h => by
    rw [rngL_len] at hi
    obtain ⟨rfl, rfl⟩ := h
    exact ⟨.int (lo + i), W1, rngL_get n lo i hi, Wd.le_refl _, w, by simp [Rep]⟩
  stop := fun W1 m1 H1 i l w st hi => by rw [rngL_len] at hi; exact hi
theorem zipD_len : ∀ xs ys : List D, (zipD xs ys).length = min xs.length ys.length
  | [], _ => by simp [zipD]
  | _ :: _, [] => by simp [zipD]
  | x :: xs, y :: ys => by simp [zipD, zipD_len xs ys]
theorem zipD_get : ∀ (xs ys : List D) (i : Nat) (x y : D), xs[i]? = some x → ys[i]? = some y → (zipD xs ys)[i]? = some (.tup [x, y])
  | [], _, _, _, _, h, _ => by simp at h
  | _ :: _, [], _, _, _, _, h => by simp at h
  | x :: xs, y :: ys, 0, a, b, h1, h2 => by simp at h1 h2; simp [zipD, h1, h2]
  | x :: xs, y :: ys, i + 1, a, b, h1, h2 => by
    rw [zipD, List.getElem?_cons_succ]
    exact zipD_get xs ys i a b (by simpa using h1) (by simpa using h2)
theorem iters_zipT {a b : Addr} {vs ws : List V} {xs ys : List D} (t : TupAt K W a vs) (q : Reps K γ W xs vs) (t2 : TupAt K W b ws) (q2 : Reps K γ W ys ws) : Iters K γ W (zipD xs ys) none (RZ.ItzT K a b) where
  go := fun W1 m1 H1 i l w _ hi => by
    rw [zipD_len] at hi
    have hv : i < vs.length := by rw [q.length]; omega
    have hw : i < ws.length := by rw [q2.length]; omega
    exact ⟨vs, ws, vs[i], ws[i], w.sqT (t.imp (l.1 _ _) id), w.sqT (t2.imp (l.1 _ _) id), by simp [hv], by simp [hw]⟩
  yld := fun W1 m1 H1 i x H' l w _ hi h => by
    obtain ⟨T, u, v, rfl, hT, rfl, h1, h2⟩ := h
    obtain ⟨d, e1, r1⟩ := (q.zz l.1).getV (h1 vs (w.sqT (t.imp (l.1 _ _) id)))
    obtain ⟨d2, e2, r2⟩ := (q2.zz l.1).getV (h2 ws (w.sqT (t2.imp (l.1 _ _) id)))
    obtain ⟨W2, l2, _, w2, r3⟩ := new_tup w hT (reps_cons r1 (reps_cons r2 reps_nil))
    exact ⟨_, W2, zipD_get xs ys i d d2 e1 e2, l2, w2, r3⟩
  stop := fun W1 m1 H1 i l w _ hi => by
    rw [zipD_len] at hi
    refine ⟨vs, ws, w.sqT (t.imp (l.1 _ _) id), w.sqT (t2.imp (l.1 _ _) id), ?_⟩
    rw [q.length, q2.length]; omega
theorem iters_zipL {a b : Addr} {vs ws : List V} {xs ys : List D} (t : LstAt K W a vs) (q : Reps K γ W xs vs) (t2 : LstAt K W b ws) (q2 : Reps K γ W ys ws) : Iters K γ W (zipD xs ys) none (Itz K a b) where
  go := fun W1 m1 H1 i l w _ hi => by
    rw [zipD_len] at hi
    have hv : i < vs.length := by rw [q.length]; omega
    have hw : i < ws.length := by rw [q2.length]; omega
    exact ⟨vs, ws, vs[i], ws[i], LstAt.sq w (t.imp (l.1 _ _) fun ⟨o, e⟩ => ⟨o, l.1 _ _ e⟩), LstAt.sq w (t2.imp (l.1 _ _) fun ⟨o, e⟩ => ⟨o, l.1 _ _ e⟩), by simp [hv], by simp [hw]⟩
  yld := fun W1 m1 H1 i x H' l w _ hi h => by
    obtain ⟨T, u, v, rfl, hT, rfl, h1, h2⟩ := h
    obtain ⟨d, e1, r1⟩ := (q.zz l.1).getV (h1 vs (LstAt.sq w (t.imp (l.1 _ _) fun ⟨o, e⟩ => ⟨o, l.1 _ _ e⟩)))
    obtain ⟨d2, e2, r2⟩ := (q2.zz l.1).getV (h2 ws (LstAt.sq w (t2.imp (l.1 _ _) fun ⟨o, e⟩ => ⟨o, l.1 _ _ e⟩)))
    obtain ⟨W2, l2, _, w2, r3⟩ := new_tup w hT (reps_cons r1 (reps_cons r2 reps_nil))
    exact ⟨_, W2, zipD_get xs ys i d d2 e1 e2, l2, w2, r3⟩
  stop := fun W1 m1 H1 i l w _ hi => by
    rw [zipD_len] at hi
    refine ⟨vs, ws, LstAt.sq w (t.imp (l.1 _ _) fun ⟨o, e⟩ => ⟨o, l.1 _ _ e⟩), LstAt.sq w (t2.imp (l.1 _ _) fun ⟨o, e⟩ => ⟨o, l.1 _ _ e⟩), ?_⟩
    rw [q.length, q2.length]; omega
theorem enmD_len : ∀ (xs : List D) (k : Int), (enmD k xs).length = xs.length
  | [], _ => rfl
  | x :: xs, k => by rw [enmD, List.length_cons, enmD_len xs, List.length_cons]
theorem enmD_get : ∀ (xs : List D) (k : Int) (i : Nat) (x : D), xs[i]? = some x → (enmD k xs)[i]? = some (.tup [.int (k + i), x])
  | [], _, _, _, h => by simp at h
  | x :: xs, k, 0, a, h => by simp at h; simp [enmD, h]
  | x :: xs, k, i + 1, a, h => by
    rw [enmD, List.getElem?_cons_succ, enmD_get xs (k + 1) i a (by simpa using h)]
    congr 4
    push_cast
    omega
theorem iters_enm {a : Addr} {vs : List V} {xs : List D} (t : LstAt K W a vs) (q : Reps K γ W xs vs) : Iters K γ W (enmD 0 xs) none (Ite K a) where
  go := fun W1 m1 H1 i l w _ hi => by
    rw [enmD_len] at hi
    have hv : i < vs.length := by rw [q.length]; exact hi
    exact ⟨vs, vs[i], LstAt.sq w (t.imp (l.1 _ _) fun ⟨o, e⟩ => ⟨o, l.1 _ _ e⟩), by simp [hv]⟩
  yld := fun W1 m1 H1 i x H' l w _ hi h => by
    obtain ⟨T, u, rfl, hT, rfl, h1⟩ := h
    obtain ⟨d, e1, r1⟩ := (q.zz l.1).getV (h1 vs (LstAt.sq w (t.imp (l.1 _ _) fun ⟨o, e⟩ => ⟨o, l.1 _ _ e⟩)))
    obtain ⟨W2, l2, _, w2, r3⟩ := new_tup (xs := [.int (0 + (i : Int)), d]) (vs := [V.int (i : Nat), u]) w hT (reps_cons (by simp [Rep]) (reps_cons r1 reps_nil))
    exact ⟨_, W2, enmD_get xs 0 i d e1, l2, w2, r3⟩
  stop := fun W1 m1 H1 i l w _ hi => by
    rw [enmD_len] at hi
    exact ⟨vs, LstAt.sq w (t.imp (l.1 _ _) fun ⟨o, e⟩ => ⟨o, l.1 _ _ e⟩), by rw [q.length]; exact hi⟩
end
section
variable {X : L2.Cx} {γ : Nm} {c : Cz} {k : Nat} {tg x y : Expr} {e e2 : E} {es : List E} {p pos tpos : Pos} {tes : List Expr} {tk0 : Nat}
theorem iterOf_at {m : Mu} {t : T} {ds : List D} {a : Option Nat} {m1 : Mu} {K : PySem.W.Frag} {W : Wd} {H : Hp} {v : V} (h : iterOf m t = some (.ok ds a m1)) (w : WOk K γ W m H) (q : RepT K γ W t v) :
    m1 = m ∧ stay m ds a ∧ ((∃ b vs, v = .ref b ∧ SqL K H b vs ∧ Iters K γ W ds a (Itl K b)) ∨ ∃ b vs, v = .ref b ∧ SqT K H b vs ∧ Iters K γ W ds a (Itt K b)) := by
  cases t with
  | val d =>
    cases d <;> simp only [iterOf] at h <;> first | (cases h; done) | skip
    case tup xs =>
      simp only [Option.some.injEq, RI.ok.injEq] at h
      obtain ⟨rfl, rfl, rfl⟩ := h
      simp only [RepT, Rep] at q
      obtain ⟨b, vs, rfl, t, r⟩ := q
      exact ⟨rfl, trivial, .inr ⟨b, vs, rfl, w.sqT t, iters_tup t r⟩⟩
    case lst xs =>
      simp only [Option.some.injEq, RI.ok.injEq] at h
      obtain ⟨rfl, rfl, rfl⟩ := h
      simp only [RepT, Rep] at q
      obtain ⟨b, vs, rfl, t, r⟩ := q
      exact ⟨rfl, trivial, .inl ⟨b, vs, rfl, LstAt.sq w t, iters_lst t r⟩⟩
  | loc n =>
    obtain ⟨b, rfl, f1⟩ := q
    simp only [iterOf] at h
    split at h
    · rename_i xs hm
      simp only [Option.some.injEq, RI.ok.injEq] at h
      obtain ⟨rfl, rfl, rfl⟩ := h
      obtain ⟨b', f2, oa⟩ := w.c n _ hm
      rw [f1] at f2; cases f2
      obtain ⟨⟨vs, e1, r⟩, _⟩ := oa
      exact ⟨rfl, hm, .inl ⟨b, vs, rfl, .inl (.inl e1), iters_loc f1⟩⟩
    · rename_i xs hm
      simp only [Option.some.injEq, RI.ok.injEq] at h
      obtain ⟨rfl, rfl, rfl⟩ := h
      obtain ⟨b', f2, oa⟩ := w.c n _ hm
      rw [f1] at f2; cases f2
      have oa1 := oa.1
      simp only [Rep] at oa1
      obtain ⟨b2, vs, e2, t, r⟩ := oa1
      cases e2
      exact ⟨rfl, trivial, .inl ⟨b, vs, rfl, LstAt.sq w t, iters_lst t r⟩⟩
    · cases h
theorem iterOf_ok {m : Mu} {t : T} {r : RI} (h : iterOf m t = some r) : ∃ ds a m1, r = .ok ds a m1 := by
  cases t with
  | val d => cases d <;> simp only [iterOf] at h <;> first | (cases h; done) | (cases h; exact ⟨_, _, _, rfl⟩)
  | loc n =>
    simp only [iterOf] at h
    split at h
    · cases h; exact ⟨_, _, _, rfl⟩
    · cases h; exact ⟨_, _, _, rfl⟩
    · cases h
/-- an iterator laid behind all else -/
theorem pie_one {K : PySem.W.Frag} {pins : List (Addr × Obj)} {σ : L2.St} {H : Hp} {s : Shared} {R : It → Hp → Prop} {J : It} {tn : Nat → Heap → Prop} (o : Obj) (I : L2.Inv X pins σ H s) (T : Turn X.prog X.w X.K tg J [s.heap.objs.size] s.heap.objs.size tn)
    (h0 : tn 0 (s.heap.push o)) (q : R J H) : PIE X pins σ tg R (.ref s.heap.objs.size) { s with heap := s.heap.push o } := by
  refine ⟨_, _, _, _, H, rfl, I.kept (t' := s.toks) fun b o e => Heap.get?_push_of_some _ e, T, h0, fun b hb => ?_, q⟩
  rw [List.mem_singleton.mp hb]
  exact I.fpOk (Nat.le_refl _) (I.hok.fresh (Nat.le_refl _))
/-- any list, any tuple -/
theorem pi_seq {t : TE} (hx : PE X x t) : PI X tg x (fun σ H R => t σ H fun v H1 => (∃ b vs, v = .ref b ∧ SqL X.K H1 b vs ∧ R (Itl X.K b) H1) ∨ ∃ b vs, v = .ref b ∧ SqT X.K H1 b vs ∧ R (Itt X.K b) H1) := by
  refine ⟨fun pins s σ H R I h => thn (hx.run pins s σ H _ I h) fun v s1 ⟨u, H1, I1, r1, q1⟩ => ?_⟩
  rcases q1 with ⟨b, vs, rfl, hq, q⟩ | ⟨b, vs, rfl, hq, q⟩
  · cases r1
    obtain ⟨its, rv, p, hz⟩ := I1.list hq
    exact wpAny_pyIter_list p.isList (pie_one (K := X.K) _ I1 (turn_list b _) ⟨_, Heap.get?_push_size _ rfl, rfl, rfl⟩ q)
  · cases r1
    obtain ⟨its, rv, p, hz⟩ := I1.tuple hq
    exact wpAny_pyIter_tuple (show s1.heap.IsTuple b its.toArray from p) (pie_one (K := X.K) _ I1 (turn_tuple b _) ⟨_, Heap.get?_push_size _ rfl, rfl, rfl⟩ q)
theorem _root_.L2.PI.weak {X : L2.Cx} {tg x : Expr} {t t' : TI} (h : PI X tg x t) (i : ∀ σ H R, t' σ H R → t σ H R) : PI X tg x t' := ⟨fun pins s σ H Q I q => h.run pins s σ H Q I (i σ H Q q)⟩
/-- not one of the calls that are told by themselves -/
def E.plainIt : E → Bool
  | .rng _ => false
  | .zip _ _ => false
  | .enm _ => false
  | _ => true
theorem evI_plain {e : E} (h : e.plainIt = true) {ρ : Rho} {m : Mu} : evI c e ρ m = (match ev c e ρ m with
    | none => none
    | some (.ex e m1) => some (.ex e m1)
    | some (.ok x _ m1) => iterOf m1 x) := by
  cases e <;> first | (cases h; done) | (rw [evI] <;> first | rfl | (intros; contradiction))
theorem si_seq (ha : SE X γ c x e) (hp : e.plainIt = true) : SI X γ c tg x e := fun Wx tk => by
  refine (pi_seq (tg := tg) (ha Wx tk)).weak fun σ H R ⟨W, ρ, m, r, hW, hr, h, out⟩ => ?_
  rw [evI_plain hp] at h
  cases he : ev c e ρ m with
  | none => rw [he] at h; cases h
  | some r0 =>
    rw [he] at h
    refine ⟨W, ρ, m, r0, hW, hr, he, ?_⟩
    cases r0 with
    | ex e m1 =>
      have h' : some (RI.ex e m1) = some r := h
      cases h'
      exact out
    | ok t fr m1 =>
      intro v H' W' l w q
      have h : iterOf m1 t = some r := h
      obtain ⟨W2, l2, _, w2, q2⟩ := freeze w q
      obtain ⟨ds, a, m2, rfl⟩ := iterOf_ok h
      obtain ⟨rfl, st, o⟩ := iterOf_at h w2 q2
      rcases o with ⟨b, vs, rfl, hq, J⟩ | ⟨b, vs, rfl, hq, J⟩
      · exact .inl ⟨b, vs, rfl, hq, out _ _ W2 (l.trans l2) w2 st J⟩
      · exact .inr ⟨b, vs, rfl, hq, out _ _ W2 (l.trans l2) w2 st J⟩
theorem OutI.mono {K : PySem.W.Frag} {W W1 : Wd} {Wx : WX} {σ : L2.St} {r : RI} {R : It → Hp → Prop} (h : OutI K γ W Wx σ r R) (l : W.le W1) : OutI K γ W1 Wx σ r R := by
  cases r with
  | ok ds a m => exact fun J H' W' l' => h J H' W' (l.trans l')
  | ex e m => exact fun cls da H' W' l' => h cls da H' W' (l.trans l')
theorem rds_length : ∀ {ts : List T} {m : Mu} {ds : List D}, rds m ts = some ds → ds.length = ts.length
  | [], m, ds, h => by simp only [rds, Option.some.injEq] at h; rw [← h]; rfl
  | t :: ts, m, ds, h => by
    simp only [rds, Option.bind_eq_some_iff, Option.map_eq_some_iff] at h
    obtain ⟨d, _, ds', h2, rfl⟩ := h
    rw [List.length_cons, List.length_cons, rds_length h2]
theorem tEL_bndI {K : PySem.W.Frag} {W : Wd} {m : Mu} {H : Hp} {ρ : Rho} {σ : L2.St} {Wx : WX} {r : RI} {es : List E} {kk : List T → Mu → Option RI} {Q : It → Hp → Prop} (hW : WOk K γ W m H) (hr : RhoOk K γ W ρ σ)
    (h : (match evL c es ρ m with
      | none => none
      | some (.ex e m1) => some (.ex e m1)
      | some (.ok ts m1) => kk ts m1) = some r) (out : OutI K γ W Wx σ r Q)
    {R : List V → Hp → Prop} (go : ∀ vs H1 W1 ts m1, W.le W1 → WOk K γ W1 m1 H1 → ts.length = es.length → RepTs K γ W1 ts vs → kk ts m1 = some r → OutI K γ W1 Wx σ r Q → R vs H1) : tEL K γ c es Wx σ H R := by
  cases he : evL c es ρ m with
  | none => rw [he] at h; cases h
  | some r0 =>
    rw [he] at h
    refine ⟨W, ρ, m, r0, hW, hr, he, ?_⟩
    cases r0 with
    | ok ts m1 => exact fun vs H' W' l w q => go vs H' W' ts m1 l w (evL_length he) q h (out.mono l)
    | ex e m1 =>
      have h' : some (RI.ex e m1) = some r := h
      cases h'
      exact out
theorem rngOf_one {ds : List D} {xs : List D} (h : rngOf ds = some xs) (h1 : ds.length = 1) : ∃ n : Int, ds = [.int n] ∧ -(2 ^ 62) < n ∧ n < 2 ^ 62 ∧ xs = rngL 0 n.toNat := by
  unfold rngOf at h
  split at h
  · rename_i n
    split at h
    · rename_i hc
      simp only [Bool.and_eq_true, decide_eq_true_eq] at hc
      cases h
      exact ⟨n, rfl, hc.1, hc.2, rfl⟩
    · cases h
  · simp at h1
  · cases h
theorem rngOf_two {ds : List D} {xs : List D} (h : rngOf ds = some xs) (h1 : ds.length = 2) : ∃ a b : Int, ds = [.int a, .int b] ∧ (-(2 ^ 61) < a ∧ a < 2 ^ 61 ∧ -(2 ^ 61) < b ∧ b < 2 ^ 61) ∧ xs = rngL a (b - a).toNat := by
  unfold rngOf at h
  split at h
  · simp at h1
  · rename_i a b
    split at h
    · rename_i hc
      simp only [Bool.and_eq_true, decide_eq_true_eq] at hc
      cases h
      exact ⟨a, b, rfl, ⟨hc.1.1.1, hc.1.1.2, hc.1.2, hc.2⟩, rfl⟩
    · cases h
  · cases h
theorem RepNs.len {K : PySem.W.Frag} {W : Wd} {H : Hp} : ∀ {ds : List D} {vs : List V}, RepNs K γ W H ds vs → vs.length = ds.length
  | [], vs, q => by have q' : vs = [] := q; rw [q']; rfl
  | t :: ts, vs, ⟨v, r, e, _, q⟩ => by rw [e, List.length_cons, List.length_cons, RepNs.len q]
theorem si_rng1 (hg : Gl X "range") (hm : X.mg "range" = none) (ha : SL X γ c [x] [e]) (hs : starEach [x] X.env = [(false, eval x X.env)]) : SI X γ c tg (.Call (.Name "range" p) [x] [] pos) (.rng [e]) := fun Wx tk => by
  refine (pi_range1 (tg := tg) (p := p) (pos := pos) hg hm (ha Wx tk) hs).weak fun σ H R ⟨W, ρ, m, r, hW, hr, h, out⟩ => ?_
  simp only [evI] at h
  refine tEL_bndI hW hr h out fun vs H1 W1 ts m1 l w hl q h out => ?_
  simp only [Option.bind_eq_some_iff, Option.map_eq_some_iff] at h
  obtain ⟨ds, e1, xs, e2, rfl⟩ := h
  have rn := q.rds w e1
  obtain ⟨n, rfl, h1, h2, rfl⟩ := rngOf_one e2 ((rds_length e1).trans hl)
  obtain ⟨v, e3, r3⟩ := rn.one
  have e4 : v = .int n := by simpa [RepN, Rep] using r3
  subst e3 e4
  exact ⟨n, rfl, Int.le_of_lt h1, h2, out _ _ W1 (Wd.le_refl _) w trivial iters_rng⟩
theorem si_rng2 (hg : Gl X "range") (hm : X.mg "range" = none) (ha : SL X γ c [x, y] [e, e2]) (hs : starEach [x, y] X.env = [(false, eval x X.env), (false, eval y X.env)]) (hs2 : starEach [y] X.env = [(false, eval y X.env)]) : SI X γ c tg (.Call (.Name "range" p) [x, y] [] pos) (.rng [e, e2]) := fun Wx tk => by
  refine (pi_range2 (tg := tg) (p := p) (pos := pos) hg hm (ha Wx tk) hs hs2).weak fun σ H R ⟨W, ρ, m, r, hW, hr, h, out⟩ => ?_
  simp only [evI] at h
  refine tEL_bndI hW hr h out fun vs H1 W1 ts m1 l w hl q h out => ?_
  simp only [Option.bind_eq_some_iff, Option.map_eq_some_iff] at h
  obtain ⟨ds, e1, xs, e2, rfl⟩ := h
  have rn := q.rds w e1
  obtain ⟨a, b, rfl, ⟨h1, h2, h3, h4⟩, rfl⟩ := rngOf_two e2 ((rds_length e1).trans hl)
  obtain ⟨v, r1, rfl, r3, v2, r2, rfl, r4, e5⟩ := rn
  have e5' : r2 = [] := e5
  have e4 : v = .int a := by simpa [RepN, Rep] using r3
  have e6 : v2 = .int b := by simpa [RepN, Rep] using r4
  subst e4 e6 e5'
  exact ⟨a, b, rfl, ⟨by omega, by omega, by omega, by omega⟩, out _ _ W1 (Wd.le_refl _) w trivial iters_rng⟩
theorem si_enm (hg : Gl X "enumerate") (hm : X.mg "enumerate" = none) (ha : SL X γ c [x] [e]) (hs : starEach [x] X.env = [(false, eval x X.env)]) : SI X γ c (.Tuple tes tk0 tpos) (.Call (.Name "enumerate" p) [x] [] pos) (.enm e) := fun Wx tk => by
  refine (pi_enum (elts := tes) (kk := tk0) (tpos := tpos) (p := p) (pos := pos) hg hm (ha Wx tk) hs).weak fun σ H R ⟨W, ρ, m, r, hW, hr, h, out⟩ => ?_
  have h : (match evL c [e] ρ m with
      | none => none
      | some (.ex e m1) => some (.ex e m1)
      | some (.ok ts m1) => (match ts with
        | [.val (.lst xs)] => some (RI.ok (enmD 0 xs) none m1)
        | _ => none)) = some r := by
    rw [← h]
    simp only [evI, evL]
    cases ev c e ρ m with
    | none => rfl
    | some r0 =>
      cases r0 with
      | ex e m => rfl
      | ok t f m => cases t with
        | loc n => rfl
        | val d => cases d <;> rfl
  refine tEL_bndI hW hr h out fun vs H1 W1 ts m1 l w hl q h out => ?_
  split at h
  · rename_i xs
    cases h
    obtain ⟨v, r1, rfl, r3, e5⟩ := q
    have e5' : r1 = [] := e5
    subst e5'
    simp only [RepT, Rep] at r3
    obtain ⟨a, vs, rfl, t, r⟩ := r3
    exact ⟨a, vs, rfl, LstAt.sq w t, out _ _ W1 (Wd.le_refl _) w trivial (iters_enm t r)⟩
  · cases h
theorem si_zip (hg : Gl X "zip") (hm : X.mg "zip" = none) (ha : SL X γ c [x, y] [e, e2]) (hs : starEach [x, y] X.env = (false, eval x X.env) :: starEach [y] X.env) (hp : (backTo pos (starEach [y] X.env)).any (·.1) = false) :
    SI X γ c (.Tuple tes tk0 tpos) (.Call (.Name "zip" p) [x, y] [] pos) (.zip e e2) := fun Wx tk => by
  refine (RZ.pi_zipA (elts := tes) (kk := tk0) (tpos := tpos) (p := p) (pos := pos) hg hm (ha Wx tk) hs hp).weak fun σ H R ⟨W, ρ, m, r, hW, hr, h, out⟩ => ?_
  have h : (match evL c [e, e2] ρ m with
      | none => none
      | some (.ex e m1) => some (.ex e m1)
      | some (.ok ts m1) => (match ts with
        | [.val (.tup xs), .val (.tup ys)] => some (RI.ok (zipD xs ys) none m1)
        | [.val (.lst xs), .val (.lst ys)] => some (RI.ok (zipD xs ys) none m1)
        | _ => none)) = some r := by
    rw [← h]
    simp only [evI, evL]
    cases ev c e ρ m with
    | none => rfl
    | some r0 =>
      cases r0 with
      | ex e m => rfl
      | ok t f m =>
        simp only []
        cases ev c e2 ρ m with
        | none => rfl
        | some r1 =>
          cases r1 with
          | ex e m => rfl
          | ok t2 f2 m2 =>
            simp only []
            cases t with
            | loc n => rfl
            | val d =>
              cases t2 with
              | loc n => cases d <;> rfl
              | val d2 => cases d <;> cases d2 <;> rfl
  refine tEL_bndI hW hr h out fun vs H1 W1 ts m1 l w hl q h out => ?_
  split at h
  · rename_i xs ys
    cases h
    obtain ⟨v, r1, rfl, r3, v2, r2, rfl, r4, e5⟩ := q
    have e5' : r2 = [] := e5
    subst e5'
    simp only [RepT, Rep] at r3 r4
    obtain ⟨a, vs, rfl, t, r⟩ := r3
    obtain ⟨a2, vs2, rfl, t2, r2⟩ := r4
    exact ⟨a, a2, vs, vs2, rfl, .inr ⟨w.sqT t, w.sqT t2, out _ _ W1 (Wd.le_refl _) w trivial (iters_zipT t r t2 r2)⟩⟩
  · rename_i xs ys
    cases h
    obtain ⟨v, r1, rfl, r3, v2, r2, rfl, r4, e5⟩ := q
    have e5' : r2 = [] := e5
    subst e5'
    simp only [RepT, Rep] at r3 r4
    obtain ⟨a, vs, rfl, t, r⟩ := r3
    obtain ⟨a2, vs2, rfl, t2, r2⟩ := r4
    exact ⟨a, a2, vs, vs2, rfl, .inl ⟨LstAt.sq w t, LstAt.sq w t2, out _ _ W1 (Wd.le_refl _) w trivial (iters_zipL t r t2 r2)⟩⟩
  · cases h
end
end PY

set_option Elab.async false
set_option linter.all false
set_option maxRecDepth 100000
/-! PyK -/
namespace PY
open PySem PySem.Spec PyProof.Rows L2

/-! PyK -/
def gNames : List Nat → TGs
  | [] => gNil
  | i :: is => gCons (gName i) (gNames is)
def gDeep (K : PySem.W.Frag) : List (Nat ⊕ List Nat) → TGs
  | [] => gNil
  | .inl i :: ts => gCons (gName i) (gDeep K ts)
  | .inr is :: ts => gCons (gTup K is.length (gNames is)) (gDeep K ts)
def deepIx : List (Nat ⊕ List Nat) → List Nat
  | [] => []
  | .inl i :: ts => i :: deepIx ts
  | .inr is :: ts => is ++ deepIx ts
def gTg (K : PySem.W.Frag) : Tg → TG
  | .one i => gName i
  | .many is => gTup K is.length (gNames is)
  | .deep ts => gTup K ts.length (gDeep K ts)
def SG (X : L2.Cx) (tg : Expr) (t : Tg) : Prop := PG X tg (gTg X.K t)
def Tg.ix : Tg → List Nat
  | .one i => [i]
  | .many is => is
  | .deep ts => deepIx ts
theorem wipe_set : ∀ (vs : List Nat) (σ : L2.St) (i : Nat) (v : Option V), i ∈ vs → wipe (σ.set i v) vs = wipe σ vs
  | [], _, _, _, h => by cases h
  | j :: vs, σ, i, v, h => by
    unfold wipe
    by_cases hi : i ∈ vs
    · rw [wipe_set vs σ i v hi]
    · have e : i = j := (List.mem_cons.mp h).resolve_right hi
      subst e
      have : ∀ (vs : List Nat) (σ : L2.St), i ∉ vs → wipe (σ.set i v) vs = (wipe σ vs).set i v := by
        intro vs
        induction vs with
        | nil => intro σ _; rfl
        | cons j vs ih =>
          intro σ hn
          unfold wipe
          rw [ih σ fun q => hn (List.mem_cons_of_mem _ q), List.set_comm _ _ (show j ≠ i from fun q => hn (by rw [q]; exact List.mem_cons_self))]
      rw [this vs σ hi, List.set_set]
theorem wipe_get : ∀ (vs : List Nat) (σ : L2.St) (i : Nat), (wipe σ vs)[i]? = if i ∈ vs ∧ i < σ.length then some none else σ[i]?
  | [], σ, i => by simp [wipe]
  | j :: vs, σ, i => by
    unfold wipe
    by_cases hj : j = i
    · subst hj
      by_cases hl : j < σ.length
      · rw [List.getElem?_set_self (by rw [wipe_length]; exact hl), if_pos ⟨List.mem_cons_self, hl⟩]
      · rw [List.getElem?_eq_none (by rw [List.length_set, wipe_length]; omega), if_neg (fun q => hl q.2), List.getElem?_eq_none (by omega)]
    · rw [List.getElem?_set_ne hj, wipe_get vs σ i]
      have : (i ∈ j :: vs) ↔ i ∈ vs := ⟨fun h => (List.mem_cons.mp h).resolve_left fun q => hj q.symm, List.mem_cons_of_mem _⟩
      simp only [this]
theorem wipe_wipe (vs : List Nat) (σ : L2.St) : wipe (wipe σ vs) vs = wipe σ vs := by
  apply List.ext_getElem?
  intro i
  rw [wipe_get, wipe_get, wipe_length]
  split <;> rfl
section
variable {K : PySem.W.Frag} {γ : Nm} {W : Wd} {m : Mu} {H : Hp} {σ : L2.St} {r r1 : Rho}
theorem foldl_set_ok : ∀ {is : List Nat} {xs : List D} {vs : List V} {r : Rho} {σ : L2.St} {Q : L2.St → Hp → Prop}, RhoOk K γ W r σ → Reps K γ W xs vs → xs.length = is.length →
    (∀ σ2, RhoOk K γ W ((is.zip xs).foldl (fun r p => r.set p.1 (some (.val p.2))) r) σ2 → (∀ ws : List Nat, (∀ i ∈ is, i ∈ ws) → wipe σ2 ws = wipe σ ws) → σ2.length = σ.length → Q σ2 H) → gNames is vs σ H Q
  | [], [], vs, r, σ, Q, hr, q, _, go => by
    simp only [Reps] at q
    exact ⟨q, go σ hr (fun _ _ => rfl) rfl⟩
  | [], _ :: _, _, _, _, _, _, _, h, _ => by simp at h
  | _ :: _, [], _, _, _, _, _, _, h, _ => by simp at h
  | i :: is, x :: xs, vs, r, σ, Q, hr, q, h, go => by
    simp only [Reps] at q
    obtain ⟨v, vs', rfl, q1, q2⟩ := q
    refine ⟨v, vs', rfl, ?_⟩
    refine foldl_set_ok (hr.set (i := i) (t := .val x) q1) q2 (by simpa using h) fun σ2 h2 hw hl => go σ2 h2 (fun ws hm => ?_) (by rw [hl, List.length_set])
    rw [hw ws fun j hj => hm j (List.mem_cons_of_mem _ hj), wipe_set ws σ i _ (hm i List.mem_cons_self)]
theorem bindTs_ok (w : WOk K γ W m H) : ∀ {ts : List (Nat ⊕ List Nat)} {xs : List D} {vs : List V} {r r1 : Rho} {σ : L2.St} {Q : L2.St → Hp → Prop}, RhoOk K γ W r σ → Reps K γ W xs vs → bindTs ts xs r = some r1 →
    (∀ σ2, RhoOk K γ W r1 σ2 → (∀ ws : List Nat, (∀ i ∈ deepIx ts, i ∈ ws) → wipe σ2 ws = wipe σ ws) → Q σ2 H) → gDeep K ts vs σ H Q
  | [], [], vs, r, r1, σ, Q, hr, q, h, go => by
    simp only [Reps] at q
    simp only [bindTs, Option.some.injEq] at h
    subst h
    exact ⟨q, go σ hr (fun _ _ => rfl)⟩
  | [], _ :: _, _, _, _, _, _, _, _, h, _ => by simp [bindTs] at h
  | .inl _ :: _, [], _, _, _, _, _, _, _, h, _ => by simp [bindTs] at h
  | .inr _ :: _, [], _, _, _, _, _, _, _, h, _ => by simp [bindTs] at h
  | .inl i :: ts, x :: xs, vs, r, r1, σ, Q, hr, q, h, go => by
    simp only [Reps] at q
    obtain ⟨v, vs', rfl, q1, q2⟩ := q
    simp only [bindTs] at h
    refine ⟨v, vs', rfl, ?_⟩
    refine bindTs_ok w (hr.set (i := i) (t := .val x) q1) q2 h fun σ2 h2 hw => go σ2 h2 fun ws hm => ?_
    rw [hw ws fun j hj => hm j (List.mem_cons_of_mem _ hj), wipe_set ws σ i _ (hm i List.mem_cons_self)]
  | .inr is :: ts, x :: xs, vs, r, r1, σ, Q, hr, q, h, go => by
    simp only [Reps] at q
    obtain ⟨v, vs', rfl, q1, q2⟩ := q
    refine ⟨v, vs', rfl, ?_⟩
    cases x <;> simp only [bindTs] at h <;> first | (cases h; done) | skip
    case tup ys =>
      split at h
      · rename_i hl
        simp only [Rep] at q1
        obtain ⟨a, us, rfl, t, q3⟩ := q1
        refine ⟨a, us, rfl, w.sqT t, by rw [q3.length, hl], foldl_set_ok hr q3 hl fun σ2 h2 hw _ => ?_⟩
        refine bindTs_ok w h2 q2 h fun σ3 h3 hw3 => go σ3 h3 fun ws hm => ?_
        rw [hw3 ws fun j hj => hm j (List.mem_append_right _ hj), hw ws fun j hj => hm j (List.mem_append_left _ hj)]
      · cases h
theorem bindTs_len : ∀ {ts : List (Nat ⊕ List Nat)} {xs : List D} {r r1 : Rho}, bindTs ts xs r = some r1 → xs.length = ts.length
  | [], [], _, _, _ => rfl
  | [], _ :: _, _, _, h => by simp [bindTs] at h
  | .inl _ :: _, [], _, _, h => by simp [bindTs] at h
  | .inr _ :: _, [], _, _, h => by simp [bindTs] at h
  | .inl i :: ts, x :: xs, r, r1, h => by
    simp only [bindTs] at h
    rw [List.length_cons, List.length_cons, bindTs_len h]
  | .inr is :: ts, x :: xs, r, r1, h => by
    cases x <;> simp only [bindTs] at h <;> first | (cases h; done) | skip
    split at h
    · rw [List.length_cons, List.length_cons, bindTs_len h]
    · cases h
theorem bindT_ok {tg : Tg} {d : D} {x : V} {Q : L2.St → Hp → Prop} (w : WOk K γ W m H) (hr : RhoOk K γ W r σ) (q : Rep K γ W d x) (h : bindT tg d r = some r1)
    (go : ∀ σ2, RhoOk K γ W r1 σ2 → (∀ ws : List Nat, (∀ i ∈ tg.ix, i ∈ ws) → wipe σ2 ws = wipe σ ws) → Q σ2 H) : gTg K tg x σ H Q := by
  cases tg with
  | one i =>
    simp only [bindT, Option.some.injEq] at h
    subst h
    exact go _ (hr.set (t := .val d) q) fun ws hm => wipe_set ws σ i _ (hm i List.mem_cons_self)
  | many is =>
    cases d <;> simp only [bindT] at h <;> first | (cases h; done) | skip
    case tup xs =>
      split at h
      · rename_i hl
        cases h
        simp only [Rep] at q
        obtain ⟨a, vs, rfl, t, q⟩ := q
        exact ⟨a, vs, rfl, w.sqT t, by rw [q.length, hl], foldl_set_ok hr q hl fun σ2 h2 hw _ => go σ2 h2 hw⟩
      · cases h
  | deep ts =>
    cases d <;> simp only [bindT] at h <;> first | (cases h; done) | skip
    case tup xs =>
      simp only [Rep] at q
      obtain ⟨a, vs, rfl, t, q⟩ := q
      exact ⟨a, vs, rfl, w.sqT t, by rw [q.length, bindTs_len h], bindTs_ok w hr q h go⟩
end
section
variable {X : L2.Cx} {pos : Pos}
theorem sg_one {i : Nat} {x : Str} (hN : X.N.Nodup) (hi : X.N[i]? = some x) (hx : Loc X.env.scope x) (hf : X.fn x = true ∨ X.env.scope.names.lookup x = some .local) : SG X (.Name x pos) (.one i) := pg_name hN hi hx hf
/-- names, each with its slot -/
inductive Names (X : L2.Cx) : List Expr → List Nat → Prop
  | nil : Names X [] []
  | cons {x : Str} {p : Pos} {es : List Expr} {i : Nat} {is : List Nat} (hi : X.N[i]? = some x) (hx : Loc X.env.scope x) (hf : X.fn x = true ∨ X.env.scope.names.lookup x = some .local) (t : Names X es is) : Names X (.Name x p :: es) (i :: is)
theorem Names.pgs (hN : X.N.Nodup) : ∀ {es : List Expr} {is : List Nat}, Names X es is → PGs X es (gNames is) ∧ (assignEach es X.env).length = is.length ∧ (assignEach es X.env).findIdx? (·.1) = none
  | _, _, .nil => ⟨pgs_nil, rfl, rfl⟩
  | _, _, .cons hi hx hf t => by
    obtain ⟨h1, h2, h3⟩ := t.pgs hN
    refine ⟨pgs_cons (pg_name hN hi hx hf) h1 (by rfl), ?_, ?_⟩
    · show (assignEach _ X.env).length + 1 = _
      rw [h2]; rfl
    · show List.findIdx? _ ((false, _) :: assignEach _ X.env) = none
      rw [List.findIdx?_cons]
      simp [h3]
theorem sg_many {es : List Expr} {is : List Nat} {k : Nat} (hN : X.N.Nodup) (hc : X.calm = true) (h : Names X es is) : SG X (.Tuple es k pos) (.many is) := by
  obtain ⟨h1, h2, h3⟩ := h.pgs hN
  exact pg_tup hc h1 h2 h3
/-- names and tuples of names -/
inductive Deep (X : L2.Cx) : List Expr → List (Nat ⊕ List Nat) → Prop
  | nil : Deep X [] []
  | one {x : Str} {p : Pos} {es : List Expr} {i : Nat} {ts : List (Nat ⊕ List Nat)} (hi : X.N[i]? = some x) (hx : Loc X.env.scope x) (hf : X.fn x = true ∨ X.env.scope.names.lookup x = some .local) (t : Deep X es ts) : Deep X (.Name x p :: es) (.inl i :: ts)
  | many {fs es : List Expr} {k : Nat} {p : Pos} {is : List Nat} {ts : List (Nat ⊕ List Nat)} (h : Names X fs is) (t : Deep X es ts) : Deep X (.Tuple fs k p :: es) (.inr is :: ts)
theorem Deep.pgs (hN : X.N.Nodup) (hc : X.calm = true) : ∀ {es : List Expr} {ts : List (Nat ⊕ List Nat)}, Deep X es ts → PGs X es (gDeep X.K ts) ∧ (assignEach es X.env).length = ts.length ∧ (assignEach es X.env).findIdx? (·.1) = none
  | _, _, .nil => ⟨pgs_nil, rfl, rfl⟩
  | _, _, .one hi hx hf t => by
    obtain ⟨h1, h2, h3⟩ := t.pgs hN hc
    refine ⟨pgs_cons (pg_name hN hi hx hf) h1 (by rfl), ?_, ?_⟩
    · show (assignEach _ X.env).length + 1 = _
      rw [h2]; rfl
    · show List.findIdx? _ ((false, _) :: assignEach _ X.env) = none
      rw [List.findIdx?_cons]
      simp [h3]
  | _, _, .many hn t => by
    obtain ⟨h1, h2, h3⟩ := t.pgs hN hc
    refine ⟨pgs_cons (sg_many hN hc hn) h1 (by rfl), ?_, ?_⟩
    · show (assignEach _ X.env).length + 1 = _
      rw [h2]; rfl
    · show List.findIdx? _ ((false, _) :: assignEach _ X.env) = none
      rw [List.findIdx?_cons]
      simp [h3]
theorem sg_deep {es : List Expr} {ts : List (Nat ⊕ List Nat)} {k : Nat} (hN : X.N.Nodup) (hc : X.calm = true) (h : Deep X es ts) : SG X (.Tuple es k pos) (.deep ts) := by
  obtain ⟨h1, h2, h3⟩ := h.pgs hN hc
  exact pg_tup hc h1 h2 h3
end

/-! PyK -/
/-- no test, or one -/
def SCs (X : L2.Cx) (γ : Nm) (c : Cz) (ifs : List Expr) (conds : List E) : Prop := ∀ Wx : WX, Takes X Wx → PTs X ifs (fun σ H Q => ∃ W ρ m r, WOk X.K γ W m H ∧ RhoOk X.K γ W ρ σ ∧ evC c conds ρ m = some r ∧ OutT X.K γ W Wx σ r Q)
section
variable {X : L2.Cx} {γ : Nm} {c : Cz} {k : Nat} {elt tg iter x : Expr} {ifs : List Expr} {e ei : E} {conds : List E} {t : Tg} {scope : Scope} {own : List (Str × Nat)} {pos : Pos}
theorem scs_nil : SCs X γ c [] [] := fun Wx _ => ⟨fun pins s σ H Q I ⟨W, ρ, m, r, hW, hr, h, out⟩ => pts_nil.run pins s σ H Q I (by
  simp only [evC] at h
  exact vl_bl h out hW)⟩
theorem scs_one {a : E} (h : ST X γ c x a) : SCs X γ c [x] [a] := fun Wx tk => ⟨fun pins s σ H Q I ⟨W, ρ, m, r, hW, hr, h1, out⟩ => (pts_one (h Wx tk)).run pins s σ H Q I ⟨W, ρ, m, r, hW, hr, by simpa only [evC] using h1, out⟩⟩
theorem Rep.zq {K : PySem.W.Frag} {W W' : Wd} {d : D} {v : V} (h : Rep K γ W d v) (e : W'.z = W.z) : Rep K γ W' d v := Rep.zz (fun a o q => by rw [e]; exact q) h
theorem Reps.zq {K : PySem.W.Frag} {W W' : Wd} {d : List D} {v : List V} (h : Reps K γ W d v) (e : W'.z = W.z) : Reps K γ W' d v := Reps.zz (fun a o q => by rw [e]; exact q) h
/-- D's content is told beside -/
def Wd.put (W : Wd) (h : Addr → Option HO) (D : Addr) (o : HO) : Wd := ⟨W.z, W.f, fun b => if b = D then some o else h b⟩
theorem WOk.put {K : PySem.W.Frag} {W : Wd} {m : Mu} {H : Hp} {D : Addr} {h0 : Addr → Option HO} {o : HO} (w : WOk K γ W m H) (z : W.z D = none) (f : ∀ n, W.f n ≠ some D) (hb : ∀ b, b ≠ D → W.h b = h0 b) : WOk K γ (W.put h0 D o) m (upd H D o) := by
  refine ⟨fun a u e => ?_, w.k, fun n u e => ?_, w.inj, w.len, fun a u e => ?_⟩
  · rw [upd_ne (fun q => by rw [q] at e; rw [show (W.put h0 D o).z = W.z from rfl, z] at e; cases e)]
    exact w.z a u e
  · obtain ⟨a, e1, q⟩ := w.c n u e
    have ha : a ≠ D := fun q => f n (by rw [← q]; exact e1)
    refine ⟨a, e1, ?_⟩
    cases u with
    | lst xs =>
      obtain ⟨⟨vs, e2, q2⟩, q3⟩ := q
      exact ⟨⟨vs, by rw [upd_ne ha]; exact e2, Reps.zq q2 rfl⟩, q3⟩
    | dic _ _ => exact q
    | st _ => exact q
    | frz d => exact ⟨Rep.zq q.1 rfl, q.2⟩
  · simp only [Wd.put] at e
    split at e
    · rename_i hd
      subst hd
      cases e
      exact ⟨upd_same, z, f⟩
    · rename_i hd
      rw [← hb a hd] at e
      obtain ⟨e1, e2, e3⟩ := w.hh a u e
      exact ⟨by rw [upd_ne hd]; exact e1, e2, e3⟩
theorem WOk.drop {K : PySem.W.Frag} {W : Wd} {m : Mu} {H : Hp} {h0 : Addr → Option HO} (w : WOk K γ W m H) (hb : ∀ b o, h0 b = some o → W.h b = some o) : WOk K γ ⟨W.z, W.f, h0⟩ m H := by
  refine ⟨w.z, w.k, fun n u e => ?_, w.inj, w.len, fun a u e => w.hh a u (hb a u e)⟩
  obtain ⟨a, e1, q⟩ := w.c n u e
  refine ⟨a, e1, ?_⟩
  cases u with
  | lst xs =>
    obtain ⟨⟨vs, e2, q2⟩, q3⟩ := q
    exact ⟨⟨vs, e2, Reps.zq q2 rfl⟩, q3⟩
  | dic _ _ => exact q
  | st _ => exact q
  | frz d => exact ⟨Rep.zq q.1 rfl, q.2⟩
theorem RhoOk.zz {K : PySem.W.Frag} {W W' : Wd} {ρ : Rho} {σ : L2.St} (h : RhoOk K γ W ρ σ) (z : ∀ a o, W.z a = some o → W'.z a = some o) (f : ∀ n a, W.f n = some a → W'.f n = some a) : RhoOk K γ W' ρ σ := ⟨h.len, fun i t e => by
  obtain ⟨v, e1, q⟩ := h.get i t e
  refine ⟨v, e1, ?_⟩
  cases t with
  | val d => exact Rep.zz z q
  | loc n => obtain ⟨a, e2, q⟩ := q; exact ⟨a, e2, f n a q⟩⟩
theorem run_cmpr {K : PySem.W.Frag} {W0 : Wd} {ds : List PY.D} {a : Option Nat} {J : It} {m0 : Mu} {H0 : Hp} {ρ : Rho} {σ : L2.St} {vs : List Nat} {Q : VK} {te : TE} {tt : TT} {t0 : T} {f0 : Bool} {mz : Mu}
    {fc fe : Rho → Mu → Option R} (hW : WOk K γ W0 m0 H0) (hr : RhoOk K γ W0 ρ σ) (it : Iters K γ W0 ds a J) (st : stay m0 ds a) (hv : ∀ i ∈ t.ix, i ∈ vs)
    (htt : ∀ W ρ m r σ H (Q : Bool → Hp → Prop), WOk K γ W m H → RhoOk K γ W ρ σ → fc ρ m = some r → OutT K γ W (fun _ _ _ _ => False) σ r Q → tt σ H Q)
    (hte : ∀ W ρ m r σ H (Q : VK), WOk K γ W m H → RhoOk K γ W ρ σ → fe ρ m = some r → OutE K γ W (fun _ _ _ _ => False) σ r Q → te σ H Q)
    (h : cmpL t fc fe a (wipeR ρ vs) ds [] m0 = some (.ok t0 f0 mz)) (out : ∀ v H' W', W0.le W' → WOk K γ W' mz H' → RepR K γ W' H' t0 f0 v → Q v H')
    (D : Addr) (hD : H0 D = none) : ∃ Wn : Nat → Nat → Hp → Prop, (∃ m, Wn 0 m (upd H0 D (.lst []))) ∧ ∀ i m H, Wn i m H →
      (J.stop i H ∧ Q (.ref D) H) ∨ (J.go i H ∧ ∃ Nx : Hp → Prop, (∀ H', Nx H' → ∃ m', m' < m ∧ Wn (i + 1) m' H') ∧ ∀ x H', J.yld i H x H' → gTg K t x (wipe σ vs) H' fun σ2 H2 => wipe σ2 vs = wipe σ vs ∧ tt σ2 H2 fun b H3 =>
        if b = true then te σ2 H3 fun y H4 => ∃ acc, H4 D = some (.lst acc) ∧ acc.length < sizeLine ∧ Nx (upd H4 D (.lst (acc ++ [y]))) else Nx H3) := by
  have h0D : W0.h D = none := hW.notH hD
  let Tn : Wd → Mu → List PY.D → Hp → Prop := fun W m acc H => ∃ us, (∀ a o, W0.z a = some o → W.z a = some o) ∧ (∀ n a, W0.f n = some a → W.f n = some a) ∧ (W.h = fun b => if b = D then some (.lst us) else W0.h b) ∧ WOk K γ W m H ∧ Reps K γ W acc us ∧ stay m ds a
  have fin : ∀ {W m acc H}, Tn W m acc H → ∃ us, H D = some (.lst us) ∧ W.z D = none ∧ (∀ n, W.f n ≠ some D) ∧ Reps K γ W acc us := by
    rintro W m acc H ⟨us, _, _, hh, w, q, _⟩
    obtain ⟨e1, e2, e3⟩ := w.hh D (.lst us) (by rw [hh]; simp)
    exact ⟨us, e1, e2, e3, q⟩
  refine ⟨fun i mm H => ∃ W m acc, Tn W m acc H ∧ mm = ds.length - i ∧ i ≤ ds.length ∧ cmpL t fc fe a (wipeR ρ vs) (ds.drop i) acc m = some (.ok t0 f0 mz), ⟨_, W0.put W0.h D (.lst []), m0, [], ⟨[], fun _ _ e => e, fun _ _ e => e, rfl, hW.put (hW.notZ hD) (hW.notF hD) fun _ _ => rfl, reps_nil, st⟩, rfl, Nat.zero_le _, h⟩, ?_⟩
  rintro i mm H ⟨W, m, acc, T, rfl, hi, hc⟩
  obtain ⟨us, lz, lf, hh, w, qa, stm⟩ := T
  have lef : W0.lef (lock 0 a) W := ⟨lz, fun j b _ e => lf j b e⟩
  by_cases hlt : i < ds.length
  · refine .inr ⟨it.go W m H i lef w stm hlt, fun H' => ∃ W m acc, Tn W m acc H' ∧ cmpL t fc fe a (wipeR ρ vs) (ds.drop (i + 1)) acc m = some (.ok t0 f0 mz), ?_, ?_⟩
    · rintro H' ⟨W', m', acc', T', hc'⟩
      exact ⟨ds.length - (i + 1), by omega, W', m', acc', T', rfl, hlt, hc'⟩
    · intro x H' hy
      obtain ⟨d, W1, ed, l1, w1, q1⟩ := it.yld W m H i x H' lef w stm hlt hy
      have ed' : ds[i] = d := by rw [List.getElem?_eq_getElem hlt] at ed; exact Option.some.inj ed
      rw [List.drop_eq_getElem_cons hlt, ed'] at hc
      rw [cmpL] at hc
      obtain ⟨r1, hb, hc⟩ := Option.bind_eq_some_iff.mp hc
      refine bindT_ok w1 (((hr.zz lz lf).mono l1).wipe vs) q1 hb fun σ2 hr2 hw => ⟨(hw vs hv).trans (wipe_wipe vs σ), ?_⟩
      cases hf : fc r1 m with
      | none => rw [hf] at hc; cases hc
      | some rc =>
        rw [hf] at hc
        cases rc with
        | ex e m1 => cases hc
        | ok tc frc m1 =>
          have hc : ((rd m1 tc).bind fun cc => (truth cc).bind fun b => if b = true then bnd (fe r1 m1) fun t2 m2 => (match t2 with
            | .val e => if still a m m2 && decide (acc.length < line) then cmpL t fc fe a (wipeR ρ vs) (ds.drop (i + 1)) (acc ++ [e]) m2 else none
            | .loc _ => none)
            else if still a m m1 then cmpL t fc fe a (wipeR ρ vs) (ds.drop (i + 1)) acc m1 else none) = some (.ok t0 f0 mz) := hc
          simp only [Option.bind_eq_some_iff] at hc
          obtain ⟨cc, c1, b, c2, hc⟩ := hc
          refine htt W1 r1 m _ σ2 H' _ w1 hr2 hf ⟨cc, b, c1, c2, fun H3 W3 l3 w3 => ?_⟩
          have stay_of : ∀ {m2 : Mu}, still a m m2 = true → stay m2 ds a := by
            intro m2 hs
            cases a with
            | none => trivial
            | some n =>
              simp only [still, decide_eq_true_eq] at hs
              show m2[n]? = _
              rw [hs]; exact stm
          cases b with
          | false =>
            simp only [Bool.false_eq_true, if_false] at hc ⊢
            split at hc
            · rename_i hs
              refine ⟨W3, m1, acc, ⟨us, fun a o e => l3.1 a o (l1.1 a o (lz a o e)), fun n a e => l3.2 n a (l1.2 n a (lf n a e)), by rw [l3.3, l1.3, hh], w3, qa.zz fun a o e => l3.1 a o (l1.1 a o e), stay_of hs⟩, hc⟩
            · cases hc
          | true =>
            simp only [if_true] at hc ⊢
            cases hg : fe r1 m1 with
            | none => rw [hg] at hc; cases hc
            | some re =>
              rw [hg] at hc
              cases re with
              | ex e m2 => cases hc
              | ok t2 fr2 m2 =>
                refine hte W3 r1 m1 _ σ2 H3 _ w3 (hr2.mono l3) hg fun y H4 W4 l4 w4 q4 => ?_
                obtain ⟨W5, l5, _, w5, q5⟩ := freeze w4 q4
                cases t2 with
                | loc n => cases hc
                | val e =>
                  simp only [bnd] at hc
                  split at hc
                  · rename_i hs
                    simp only [Bool.and_eq_true, decide_eq_true_eq] at hs
                    have z5 : ∀ a o, W.z a = some o → W5.z a = some o := fun a o e => l5.1 a o (l4.1 a o (l3.1 a o (l1.1 a o e)))
                    have h5 : W5.h = fun b => if b = D then some (.lst us) else W0.h b := by rw [l5.3, l4.3, l3.3, l1.3, hh]
                    obtain ⟨e1, e2, e3⟩ := w5.hh D (.lst us) (by rw [h5]; simp)
                    refine ⟨us, e1, by rw [qa.length, ← line_eq]; exact hs.2, W5.put W0.h D (.lst (us ++ [y])), m2, acc ++ [e], ⟨us ++ [y], fun a o e => z5 a o (lz a o e), fun n a e => l5.2 n a (l4.2 n a (l3.2 n a (l1.2 n a (lf n a e)))), rfl, w5.put e2 e3 (fun b hb => by rw [h5]; simp [hb]), ?_, stay_of hs.1⟩, hc⟩
                    exact (Reps.zz (W := W) (W' := W5.put W0.h D (.lst (us ++ [y]))) z5 qa).append (reps_cons (Rep.zq q5 rfl) reps_nil)
                  · cases hc
  · have e : i = ds.length := by omega
    subst e
    refine .inl ⟨it.stop W m H _ lef w stm (Nat.le_refl _), ?_⟩
    rw [List.drop_length] at hc
    simp only [cmpL, Option.some.injEq, R.ok.injEq] at hc
    obtain ⟨rfl, rfl, rfl⟩ := hc
    obtain ⟨e1, e2, e3⟩ := w.hh D (.lst us) (by rw [hh]; simp)
    have w' : WOk K γ ⟨W.z, W.f, W0.h⟩ m H := w.drop fun b o e => by
      rw [hh]
      show (if b = D then _ else _) = _
      rw [if_neg fun q => by rw [q, h0D] at e; cases e]
      exact e
    exact out _ H ⟨W.z, W.f, W0.h⟩ ⟨lz, lf, rfl⟩ w' ⟨D, us, rfl, e1, Reps.zq qa rfl, e2, e3, h0D⟩
theorem tE_cmpr {Wx : WX} {σ : L2.St} {H : Hp} {Q : VK} {vs : List Nat} (hv : ∀ i ∈ t.ix, i ∈ vs) (h : tE X.K γ c (.cmpr e t ei conds vs) Wx σ H Q) :
    tLc (tI X.K γ c ei Wx) (gTg X.K t) (fun σ H Q => ∃ W ρ m r, WOk X.K γ W m H ∧ RhoOk X.K γ W ρ σ ∧ evC c conds ρ m = some r ∧ OutT X.K γ W (fun _ _ _ _ => False) σ r Q) (tE X.K γ c e fun _ _ _ _ => False) vs σ H Q := by
  obtain ⟨W, ρ, m, r, hW, hr, h, out⟩ := h
  simp only [ev] at h
  cases h1 : evI c ei ρ m with
  | none => rw [h1] at h; cases h
  | some ri =>
    rw [h1] at h
    refine ⟨W, ρ, m, ri, hW, hr, h1, ?_⟩
    cases ri with
    | ex e m1 =>
      have h' : some (R.ex e m1) = some r := h
      cases h'
      exact out
    | ok ds a m1 =>
      intro J H' W' l w st it D hD
      simp only at h
      have h2 : ∃ t0 f0 mz, cmpL t (fun r m => evC c conds r m) (fun r m => ev c e r m) a (wipeR ρ vs) ds [] m1 = some (.ok t0 f0 mz) ∧ r = .ok t0 f0 mz := by
        split at h
        · cases h
        · rename_i hx
          cases r with
          | ok t0 f0 mz => exact ⟨t0, f0, mz, h, rfl⟩
          | ex e m => exact absurd h (hx e m)
      obtain ⟨t0, f0, mz, h2, rfl⟩ := h2
      exact run_cmpr (te := tE X.K γ c e fun _ _ _ _ => False) (tt := fun σ H Q => ∃ W ρ m r, WOk X.K γ W m H ∧ RhoOk X.K γ W ρ σ ∧ evC c conds ρ m = some r ∧ OutT X.K γ W (fun _ _ _ _ => False) σ r Q) w (hr.mono l) it st hv (fun W ρ m r σ H Q a b c d => ⟨W, ρ, m, r, a, b, c, d⟩) (fun W ρ m r σ H Q a b c d => ⟨W, ρ, m, r, a, b, c, d⟩) h2 (fun v H' W' l' => out v H' W' (l.trans l')) D hD
/-- [elt for tg in iter if ..] -/
theorem se_cmpr (hc : X.calm = true) (hN : X.N.Nodup) (hi : SI X γ c tg iter ei) (ok : BlkOk X.N X.env.scope scope own) (hv : ∀ i ∈ t.ix, i ∈ own.map (·.2))
    (hg : ∀ (s : Shared) (H : Hp) (C : Addr) (cl : List (Str × Addr)) (fp : List Addr), SG (X.blk s H scope (compEnvC scope cl C X.env) fp) tg t)
    (ht : ∀ (s : Shared) (H : Hp) (C : Addr) (cl : List (Str × Addr)) (fp : List Addr), SCs (X.blk s H scope (compEnvC scope cl C X.env) fp) γ c ifs conds)
    (he : ∀ (s : Shared) (H : Hp) (C : Addr) (cl : List (Str × Addr)) (fp : List Addr), SE (X.blk s H scope (compEnvC scope cl C X.env) fp) γ c elt e)
    (hs : ∀ x, foldedSetIterable iter X.env x = pure x) : SE X γ c (.ListComp elt [⟨tg, iter, ifs, 0⟩] scope pos) (.cmpr e t ei conds (own.map (·.2))) := fun Wx tk =>
  (pe_lc (pos := pos) (g := gTg X.K t) (tt := fun σ H Q => ∃ W ρ m r, WOk X.K γ W m H ∧ RhoOk X.K γ W ρ σ ∧ evC c conds ρ m = some r ∧ OutT X.K γ W (fun _ _ _ _ => False) σ r Q) (te := tE X.K γ c e fun _ _ _ _ => False) hc hN (hi Wx tk) ok hg (fun s H C cl fp => ht s H C cl fp _ takes0) (fun s H C cl fp => he s H C cl fp _ takes0) hs).weak fun _ _ _ h => tE_cmpr hv h
end
/-! PyK -/
section
variable {X : L2.Cx} {γ : Nm} {c : Cz} {x : Expr} {e : E} {f tn : Str} {t : String} {p p2 pos : Pos}
theorem ty_ok {K : PySem.W.Frag} {W : Wd} {m : Mu} {H : Hp} {d : D} {v : V} {a : String} (w : WOk K γ W m H) (r : RepN K γ W H d v) (h : tyD d = some a) : TyX K H v (.type a) := by
  cases d <;> simp only [tyD] at h <;> first | (cases h; done) | skip
  case non => cases h; rw [r.non]; exact .base .non
  case bl b => cases h; rw [r.bl]; exact .base (.bl b)
  case int i => cases h; rw [r.int]; exact .base (.int i)
  case str i => cases h; rw [r.str]; exact .base (.str i)
  case tup xs =>
    cases h
    obtain ⟨b, vs, rfl, t, q⟩ := r.tup
    rcases t with t | ⟨o, its, n, e1, e2, _⟩
    · exact .base (.tup (w.z _ _ t))
    · exact .kTuple e1 e2
  case lst xs =>
    cases h
    obtain ⟨b, vs, rfl, t, q⟩ := r.lst
    rcases t with t | ⟨o, t⟩
    · exact .base (.lst t)
    · exact .base (.frz t)
theorem tyD_in {d : D} {a : String} (h : tyD d = some a) : a = "NoneType" ∨ a = "bool" ∨ a = "int" ∨ a = "str" ∨ a = "tuple" ∨ a = "list" := by
  cases d <;> simp only [tyD] at h <;> first | (cases h; done) | (cases h; simp)
theorem kit_all : ∀ a ∈ ["NoneType", "bool", "int", "str", "tuple", "list"], ∀ b ∈ ["int", "bool", "str", "tuple", "list", "dict"], kitB a b = tyOk a b := by decide +kernel
theorem tyOk_in {a b : String} {k : Bool} (h : tyOk a b = some k) : b ∈ ["int", "bool", "str", "tuple", "list", "dict"] := by
  unfold tyOk at h
  split at h
  · rename_i e; subst e; simp
  · split at h
    · rename_i e
      rcases e with rfl | rfl | rfl | rfl | rfl <;> simp
    · cases h
theorem se_isi (hg : Gl X f) (hm : X.mg f = none) (hv : bootBuiltins f = some (.builtin "isinstance")) (hn : f ≠ "__name__") (hdb : (f == ("__debug__" : Str)) = false)
    (hg2 : Gl X tn) (hm2 : X.mg tn = none) (hv2 : bootBuiltins tn = some (.type t)) (hn2 : tn ≠ "__name__") (hdb2 : (tn == ("__debug__" : Str)) = false)
    (ha : SE X γ c x e) (hs : starEach [x, .Name tn p2] X.env = (false, eval x X.env) :: starEach [.Name tn p2] X.env) : SE X γ c (.Call (.Name f p) [x, .Name tn p2] [] pos) (.isi e t) := fun Wx tk => by
  have pt : PE X (.Name tn p2) (fun _ H Q => Q (.ty t) H) := ⟨fun pins s σ H Q I h => ld_blt I hg2 hm2 hv2 ⟨.ty t, H, I, rfl, h⟩ hn2 hdb2⟩
  refine (pe_callB (p := p) (pos := pos) call_isi hg hm hv (pa_cons (ha Wx tk) (pa_cons pt pa_nil) hs) hn hdb hs).weak fun σ H Q ⟨W, ρ, m, r, hW, hr, h, out⟩ => ?_
  simp only [ev] at h
  refine tE_bnd hW hr h out fun v H1 W1 t1 m1 l1 w1 r1 q1 h out => ?_
  simp only [Option.bind_eq_some_iff, isiD] at h
  obtain ⟨d, e1, k, ⟨a, e2, e3⟩, h⟩ := h
  refine ⟨v, .ty t, .type a, .type t, k, rfl, .ty t, ty_ok w1 (w1.rd q1 e1) e2, ?_, (vl_get h out).bl w1⟩
  exact kit_ty ((kit_all a (by rcases tyD_in e2 with rfl | rfl | rfl | rfl | rfl | rfl <;> simp) t (tyOk_in e3)).trans e3)
end
end PY

set_option Elab.async false
set_option linter.all false
set_option maxRecDepth 100000
/-! PyL -/
namespace PY
open PySem PySem.Spec PyProof.Rows L2

structure Wd.leS (n : Nat) (W W' : Wd) : Prop where
  z : ∀ a o, W.z a = some o → W'.z a = some o
  f : ∀ j a, j < n → W.f j = some a → W'.f j = some a
  h : W'.h = W.h
theorem Wd.leS_refl (n : Nat) (W : Wd) : W.leS n W := ⟨fun _ _ h => h, fun _ _ _ h => h, rfl⟩
theorem Wd.leS.trans {n : Nat} {A B C : Wd} (h : A.leS n B) (h' : B.leS n C) : A.leS n C := ⟨fun a o e => h'.1 a o (h.1 a o e), fun j a hj e => h'.2 j a hj (h.2 j a hj e), h'.3.trans h.3⟩
theorem Wd.le.leS {A B : Wd} (n : Nat) (h : A.le B) : A.leS n B := ⟨h.1, fun j a _ e => h.2 j a e, h.3⟩
theorem Wd.leS.mono {n n' : Nat} {A B : Wd} (h : A.leS n' B) (hn : n ≤ n') : A.leS n B := ⟨h.1, fun j a hj e => h.2 j a (Nat.lt_of_lt_of_le hj hn) e, h.3⟩
theorem Wd.leS.lef {n : Nat} {A B : Wd} (h : A.leS n B) : A.lef n B := ⟨h.1, h.2⟩
def OutS (K : PySem.W.Frag) (γ : Nm) (n : Nat) (W : Wd) (Wx : WX) (r : RS) (E : Ends) : Prop :=
  match r with
  | .nx ρ m => ∀ σ' H' W', W.leS n W' → WOk K γ W' m H' → RhoOk K γ W' ρ σ' → E.nx σ' H'
  | .bk ρ m => ∀ σ' H' W', W.leS n W' → WOk K γ W' m H' → RhoOk K γ W' ρ σ' → E.bk σ' H'
  | .rt t fr m => ∀ v H' W', W.leS n W' → WOk K γ W' m H' → RepR K γ W' H' t fr v → E.rt v H'
  | .ex e ρ m => ∀ cls da σ' H' W', W.leS n W' → WOk K γ W' m H' → RhoOk K γ W' ρ σ' → RepX K γ W' e cls da → Wx cls da σ' H'
def tS (K : PySem.W.Frag) (γ : Nm) (c : Cz) (n : Nat) (s : S) (Wx : WX) : TS := fun E σ H =>
  ∃ W ρ m r, WOk K γ W m H ∧ RhoOk K γ W ρ σ ∧ exec c n s ρ m = some r ∧ OutS K γ n W Wx r E
def tSs (K : PySem.W.Frag) (γ : Nm) (c : Cz) (n : Nat) (s : List S) (Wx : WX) : TS := fun E σ H =>
  ∃ W ρ m r, WOk K γ W m H ∧ RhoOk K γ W ρ σ ∧ execs c n s ρ m = some r ∧ OutS K γ n W Wx r E
/-- the statement does what s tells, whatever stood ahead of the frame -/
def SS (X : L2.Cx) (γ : Nm) (c : Cz) (st : Stmt) (s : S) : Prop := ∀ Wx : WX, Takes X Wx → ∀ n, PS X st (tS X.K γ c n s Wx)
def SSs (X : L2.Cx) (γ : Nm) (c : Cz) (st : List Stmt) (s : List S) : Prop := ∀ Wx : WX, Takes X Wx → ∀ n, PSs X st (tSs X.K γ c n s Wx)
theorem _root_.L2.PS.weak {X : L2.Cx} {x : Stmt} {t t' : TS} (h : PS X x t) (i : ∀ E σ H, t' E σ H → t E σ H) : PS X x t' := ⟨fun pins s σ H E I q => h.run pins s σ H E I (i E σ H q)⟩
theorem _root_.L2.PSs.weak {X : L2.Cx} {x : List Stmt} {t t' : TS} (h : PSs X x t) (i : ∀ E σ H, t' E σ H → t E σ H) : PSs X x t' := ⟨fun pins s σ H E I q => h.run pins s σ H E I (i E σ H q)⟩
section
variable {K : PySem.W.Frag} {γ : Nm} {W W1 : Wd} {m : Mu} {H : Hp} {ρ : Rho} {σ : L2.St} {Wx : WX} {r : RS} {E : Ends} {c : Cz} {n : Nat}
theorem OutS.mono (h : OutS K γ n W Wx r E) (l : W.leS n W1) : OutS K γ n W1 Wx r E := by
  cases r with
  | nx ρ m => exact fun σ' H' W' l' => h σ' H' W' (l.trans l')
  | bk ρ m => exact fun σ' H' W' l' => h σ' H' W' (l.trans l')
  | rt t fr m => exact fun v H' W' l' => h v H' W' (l.trans l')
  | ex e ρ m => exact fun cls da σ' H' W' l' => h cls da σ' H' W' (l.trans l')
theorem OutS.down {n' : Nat} (h : OutS K γ n W Wx r E) (hn : n ≤ n') : OutS K γ n' W Wx r E := by
  cases r with
  | nx ρ m => exact fun σ' H' W' l' => h σ' H' W' (l'.mono hn)
  | bk ρ m => exact fun σ' H' W' l' => h σ' H' W' (l'.mono hn)
  | rt t fr m => exact fun v H' W' l' => h v H' W' (l'.mono hn)
  | ex e ρ m => exact fun cls da σ' H' W' l' => h cls da σ' H' W' (l'.mono hn)
/-- an expression first -/
theorem tE_S {a : PY.E} {k : T → Bool → Mu → Option RS} (hW : WOk K γ W m H) (hr : RhoOk K γ W ρ σ) (h : bndS (ev c a ρ m) ρ k = some r) (out : OutS K γ n W Wx r E)
    {R : V → Hp → Prop} (go : ∀ x H1 W1 t f m1, W.le W1 → WOk K γ W1 m1 H1 → RhoOk K γ W1 ρ σ → RepR K γ W1 H1 t f x → k t f m1 = some r → OutS K γ n W1 Wx r E → R x H1) : tE K γ c a Wx σ H R := by
  cases he : ev c a ρ m with
  | none => rw [he] at h; cases h
  | some r0 =>
    rw [he] at h
    refine ⟨W, ρ, m, r0, hW, hr, he, ?_⟩
    cases r0 with
    | ok t f m1 => exact fun v H' W' l w q => go v H' W' t f m1 l w (hr.mono l) q h (out.mono (l.leS n))
    | ex e m1 =>
      have h' : some (RS.ex e ρ m1) = some r := h
      cases h'
      exact fun cls da H' W' l w q => out cls da σ H' W' (l.leS n) w (hr.mono l) q
/-- a test first -/
theorem tT_S {a : PY.E} {k : Bool → Mu → Option RS} (hW : WOk K γ W m H) (hr : RhoOk K γ W ρ σ) (h : bndS (ev c a ρ m) ρ (fun x _ m1 => (rd m1 x).bind fun d => (truth d).bind fun b => k b m1) = some r) (out : OutS K γ n W Wx r E)
    {R : Bool → Hp → Prop} (go : ∀ b H1 W1 m1, W.le W1 → WOk K γ W1 m1 H1 → RhoOk K γ W1 ρ σ → k b m1 = some r → OutS K γ n W1 Wx r E → R b H1) : tT K γ c a Wx σ H R := by
  cases he : ev c a ρ m with
  | none => rw [he] at h; cases h
  | some r0 =>
    rw [he] at h
    refine ⟨W, ρ, m, r0, hW, hr, he, ?_⟩
    cases r0 with
    | ok t f m1 =>
      have h : ((rd m1 t).bind fun d => (truth d).bind fun b => k b m1) = some r := h
      simp only [Option.bind_eq_some_iff] at h
      obtain ⟨d, e1, b, e2, h⟩ := h
      exact ⟨d, b, e1, e2, fun H' W' l w => go b H' W' m1 l w (hr.mono l) h (out.mono (l.leS n))⟩
    | ex e m1 =>
      have h' : some (RS.ex e ρ m1) = some r := h
      cases h'
      exact fun cls da H' W' l w q => out cls da σ H' W' (l.leS n) w (hr.mono l) q

/-! PyL -/
theorem ObAt.zf {W' : Wd} {a : Addr} {o : Ob} (h : ObAt K γ W H a o) (ez : W'.z = W.z) : ObAt K γ W' H a o := by
  cases o with
  | lst xs =>
    obtain ⟨⟨vs, e, q⟩, nz⟩ := h
    exact ⟨⟨vs, e, q.zq ez⟩, by rw [ez]; exact nz⟩
  | dic _ _ => exact h
  | st _ => exact h
  | frz d => exact ⟨h.1.zq ez, by rw [ez]; exact h.2⟩
/-- a cell is written -/
theorem WOk.setCell (w : WOk K γ W m H) {k : Nat} {a : Addr} {xs ys : List D} {vs : List V} (f : W.f k = some a) (hm : m[k]? = some (.lst xs)) (q : Reps K γ W ys vs) : WOk K γ W (m.set k (.lst ys)) (upd H a (.lst vs)) := by
  obtain ⟨a', f2, ⟨us, e1, _⟩, nz⟩ := w.c k _ hm
  rw [f] at f2; cases f2
  have hl : k < m.length := (List.getElem?_eq_some_iff.mp hm).1
  refine ⟨fun b o e => ?_, w.k, fun j o e => ?_, w.inj, fun j b e => by rw [List.length_set]; exact w.len j b e, fun b o e => ?_⟩
  · rw [upd_ne (fun q => by rw [q, nz] at e; cases e)]
    exact w.z b o e
  · by_cases hj : k = j
    · subst hj
      rw [List.getElem?_set_self hl] at e
      cases e
      exact ⟨a, f, ⟨vs, upd_same, q⟩, nz⟩
    · rw [List.getElem?_set_ne hj] at e
      obtain ⟨b, f3, ob⟩ := w.c j o e
      have hb : b ≠ a := fun q => hj (w.inj k j a f (q ▸ f3))
      refine ⟨b, f3, ob.mono (Wd.le_refl W) (fun xs e2 => by subst e2; exact ob.2) fun xs vs _ e3 => by rw [upd_ne hb]; exact e3⟩
  · obtain ⟨x1, x2, x3⟩ := w.hh b o e
    exact ⟨by rw [upd_ne (show b ≠ a from fun q => x3 k (by rw [q]; exact f))]; exact x1, x2, x3⟩
def Wd.cell (W : Wd) (k : Nat) (a : Addr) : Wd := ⟨W.z, fun j => if j = k then some a else W.f j, W.h⟩
/-- a new list becomes a cell -/
theorem WOk.newCell (w : WOk K γ W m H) {a : Addr} {xs : List D} {vs : List V} (e : H a = some (.lst vs)) (q : Reps K γ W xs vs) (z : W.z a = none) (f : ∀ j, W.f j ≠ some a) (h : W.h a = none) : WOk K γ (W.cell m.length a) (m ++ [.lst xs]) H := by
  refine ⟨w.z, w.k, fun j o e1 => ?_, fun j j' b e1 e2 => ?_, fun j b e1 => ?_, fun b o e1 => ?_⟩
  · by_cases hj : j < m.length
    · rw [List.getElem?_append_left hj] at e1
      obtain ⟨b, f1, ob⟩ := w.c j o e1
      exact ⟨b, by simp [Wd.cell, Nat.ne_of_lt hj, f1], ob.zf rfl⟩
    · rw [List.getElem?_append_right (by omega)] at e1
      have : j - m.length = 0 := by
        by_cases h0 : j - m.length = 0
        · exact h0
        · rw [List.getElem?_eq_none (by simp; omega)] at e1; cases e1
      rw [this] at e1
      simp only [List.getElem?_cons_zero, Option.some.injEq] at e1
      subst e1
      have hj' : j = m.length := by omega
      exact ⟨a, by simp [Wd.cell, hj'], ⟨vs, e, q.zq rfl⟩, z⟩
  · simp only [Wd.cell] at e1 e2
    split at e1 <;> split at e2
    · omega
    · cases e1; exact absurd e2 (f j')
    · cases e2; exact absurd e1 (f j)
    · exact w.inj j j' b e1 e2
  · rw [List.length_append, List.length_singleton]
    simp only [Wd.cell] at e1
    split at e1
    · omega
    · exact Nat.lt_succ_of_lt (w.len j b e1)
  · obtain ⟨x1, x2, x3⟩ := w.hh b o e1
    refine ⟨x1, x2, fun j e2 => ?_⟩
    simp only [Wd.cell] at e2
    split at e2
    · cases e2
      have e1' : W.h a = some o := e1
      rw [h] at e1'; cases e1'
    · exact x3 j e2
theorem Wd.le_cell (w : WOk K γ W m H) {a : Addr} : W.le (W.cell m.length a) := ⟨fun _ _ e => e, fun j b e => by
  have := w.len j b e
  simp [Wd.cell, Nat.ne_of_lt this, e], rfl⟩
/-- a new list takes a cell's place -/
theorem WOk.reCell (w : WOk K γ W m H) {k : Nat} {a : Addr} {xs : List D} {vs : List V} (hk : k < m.length) (e : H a = some (.lst vs)) (q : Reps K γ W xs vs) (z : W.z a = none) (f : ∀ j, W.f j ≠ some a) (h : W.h a = none) : WOk K γ (W.cell k a) (m.set k (.lst xs)) H := by
  refine ⟨w.z, w.k, fun j o e1 => ?_, fun j j' b e1 e2 => ?_, fun j b e1 => ?_, fun b o e1 => ?_⟩
  · by_cases hj : k = j
    · subst hj
      rw [List.getElem?_set_self hk] at e1
      cases e1
      exact ⟨a, by simp [Wd.cell], ⟨vs, e, q.zq rfl⟩, z⟩
    · rw [List.getElem?_set_ne hj] at e1
      obtain ⟨b, f1, ob⟩ := w.c j o e1
      exact ⟨b, by simp [Wd.cell, Ne.symm hj, f1], ob.zf rfl⟩
  · simp only [Wd.cell] at e1 e2
    split at e1 <;> split at e2
    · omega
    · cases e1; exact absurd e2 (f j')
    · cases e2; exact absurd e1 (f j)
    · exact w.inj j j' b e1 e2
  · rw [List.length_set]
    simp only [Wd.cell] at e1
    split at e1
    · omega
    · exact w.len j b e1
  · obtain ⟨x1, x2, x3⟩ := w.hh b o e1
    refine ⟨x1, x2, fun j e2 => ?_⟩
    simp only [Wd.cell] at e2
    split at e2
    · cases e2
      have e1' : W.h a = some o := e1
      rw [h] at e1'; cases e1'
    · exact x3 j e2
/-- a name takes a value -/
theorem putV_ok {i : Nat} {t : T} {v : V} {ρ' : Rho} {m' : Mu} (w : WOk K γ W m H) (hr : RhoOk K γ W ρ σ) (q : RepT K γ W t v) (h : putV n i t ρ m = some (ρ', m')) : m' = m ∧ RhoOk K γ W ρ' (σ.set i (some v)) := by
  unfold putV at h
  split at h
  · cases h; exact ⟨rfl, hr.set q⟩
  · cases h
theorem putC_ok {i : Nat} {t : T} {fr : Bool} {v : V} {ρ' : Rho} {m' : Mu} (w : WOk K γ W m H) (hr : RhoOk K γ W ρ σ) (q : RepR K γ W H t fr v) (h : putC n i t fr ρ m = some (ρ', m')) :
    ∃ W', W.leS n W' ∧ WOk K γ W' m' H ∧ RhoOk K γ W' ρ' (σ.set i (some v)) ∧ (W'.z = W.z ∧ ∀ j a, W'.f j = some a → W.f j = some a ∨ (fr = true ∧ v = .ref a)) := by
  unfold putC at h
  split at h
  · rename_i hi
    cases t with
    | loc k =>
      simp only [Option.some.injEq, Prod.mk.injEq] at h
      obtain ⟨rfl, rfl⟩ := h
      have q' : RepT K γ W (.loc k) v := by cases fr with
        | false => exact q
        | true => exact q.elim
      exact ⟨W, Wd.leS_refl n W, w, hr.set q', rfl, fun j a e => .inl e⟩
    | val d =>
      simp only at h
      split at h
      · rename_i ho
        simp only [Option.some.injEq, Prod.mk.injEq] at h
        obtain ⟨rfl, rfl⟩ := h
        have q' : RepT K γ W (.val d) v := by cases fr with
          | false => exact q
          | true => cases d <;> first | exact (show False from q).elim | cases ho
        exact ⟨W, Wd.leS_refl n W, w, hr.set q', rfl, fun j a e => .inl e⟩
      · rename_i o ho
        cases fr with
        | false => simp at h
        | true =>
          simp only [if_true] at h
          cases d <;> first | (exact (show False from q).elim) | skip
          case lst xs =>
            simp only [obOf, Option.some.injEq] at ho
            subst ho
            obtain ⟨a, vs, rfl, e, q, z, f, hn⟩ := q
            have fresh : some (ρ.set i (some (.loc m.length)), m ++ [Ob.lst xs]) = some (ρ', m') → ∃ W', W.leS n W' ∧ WOk K γ W' m' H ∧ RhoOk K γ W' ρ' (σ.set i (some (V.ref a))) ∧ (W'.z = W.z ∧ ∀ j b, W'.f j = some b → W.f j = some b ∨ ((true : Bool) = true ∧ V.ref a = .ref b)) := by
              intro h
              cases h
              refine ⟨W.cell m.length a, (Wd.le_cell w).leS n, w.newCell e q z f hn, ?_, rfl, fun j b e1 => ?_⟩
              · exact (hr.mono (Wd.le_cell w)).set (t := .loc m.length) ⟨a, rfl, by simp [Wd.cell]⟩
              · simp only [Wd.cell] at e1
                split at e1
                · cases e1; exact .inr ⟨rfl, rfl⟩
                · exact .inl e1
            split at h
            · rename_i k hk
              split at h
              · rename_i hc
                simp only [Bool.and_eq_true, decide_eq_true_eq] at hc
                obtain ⟨⟨h1, h2⟩, h3⟩ := hc
                cases h
                refine ⟨W.cell k a, ⟨fun _ _ e => e, fun j b hj e1 => by simp [Wd.cell, show j ≠ k by omega, e1], rfl⟩, w.reCell h2 e q z f hn, ?_, rfl, fun j b e1 => ?_⟩
                · refine ⟨by simp [hr.len], fun j t e1 => ?_⟩
                  by_cases hj : i = j
                  · subst hj
                    simp only [getV, Option.bind_eq_some_iff, id] at hk
                    obtain ⟨_, hk, rfl⟩ := hk
                    rw [e1] at hk; cases hk
                    exact ⟨.ref a, by rw [List.getElem?_set_self (by rw [← hr.len]; exact hi)], a, rfl, by simp [Wd.cell]⟩
                  · obtain ⟨v', e2, q'⟩ := hr.get j t e1
                    refine ⟨v', by rw [List.getElem?_set_ne hj]; exact e2, ?_⟩
                    cases t with
                    | val d => exact Rep.zq q' rfl
                    | loc j' =>
                      have hne : j' ≠ k := by
                        rintro rfl
                        have hm : (some (T.loc j'), j) ∈ ρ.zipIdx := by
                          rw [List.mem_zipIdx_iff_getElem?]
                          simpa using e1
                        have := List.all_eq_true.mp h3 _ hm
                        simp only [Bool.or_eq_true, beq_iff_eq, bne_iff_ne, ne_eq, not_true_eq_false, or_false] at this
                        exact hj this.symm
                      obtain ⟨b, e3, q'⟩ := q'
                      exact ⟨b, e3, by simp [Wd.cell, hne, q']⟩
                · simp only [Wd.cell] at e1
                  split at e1
                  · cases e1; exact .inr ⟨rfl, rfl⟩
                  · exact .inl e1
              · exact fresh h
            · exact fresh h
  · cases h
end
section
variable {X : L2.Cx} {γ : Nm} {c : Cz} {k : Nat} {x y : Expr} {a b : PY.E} {pos p p2 : Pos} {st : Stmt} {s : S} {ss : List S} {sts : List Stmt} {i : Nat} {nm : Str}
theorem ss_nil : SSs X γ c [] [] := fun Wx _ n => by
  refine pss_nil.weak fun E σ H ⟨W, ρ, m, r, hW, hr, h, out⟩ => ?_
  simp only [execs, Option.some.injEq] at h
  subst h
  exact out σ H W (Wd.leS_refl n W) hW hr
theorem ss_cons (h1 : SS X γ c st s) (h2 : SSs X γ c sts ss) : SSs X γ c (st :: sts) (s :: ss) := fun Wx tk n => by
  refine (pss_cons (h1 Wx tk n) (h2 Wx tk n)).weak fun E σ H ⟨W, ρ, m, r, hW, hr, h, out⟩ => ?_
  simp only [execs] at h
  cases he : exec c n s ρ m with
  | none => rw [he] at h; cases h
  | some r0 =>
    rw [he] at h
    refine ⟨W, ρ, m, r0, hW, hr, he, ?_⟩
    cases r0 with
    | nx ρ1 m1 =>
      intro σ' H' W' l w r'
      exact ⟨W', ρ1, m1, r, w, r', h, out.mono l⟩
    | bk ρ1 m1 => cases h; exact out
    | rt t f m1 => cases h; exact out
    | ex e ρ1 m1 => cases h; exact out
/-- an assignment of one name: it may be told as a value that is kept, or as a cell -/
def SA (X : L2.Cx) (γ : Nm) (c : Cz) (i : Nat) (st : Stmt) (e : PY.E) : Prop := ∀ Wx : WX, Takes X Wx → PS X st (tAsg (tE X.K γ c e Wx) (gName i))
theorem sa_plain (hN : X.N.Nodup) (hi : X.N[i]? = some nm) (hx : Loc X.env.scope nm) (he : SE X γ c x a) (hs : swapsWith x (some (.Name nm p)) pos.line X.env = pure false) (hf : X.fn nm = true ∨ X.env.scope.names.lookup nm = some .local) :
    SA X γ c i (.Assign [.Name nm p] x pos) a := fun Wx tk => ps_set hN hi hx (he Wx tk) hs hf
theorem s_set (h : SA X γ c i st a) : SS X γ c st (.set i a) := fun Wx tk n => by
  refine (h Wx tk).weak fun E σ H ⟨W, ρ, m, r, hW, hr, h, out⟩ => ?_
  simp only [exec] at h
  refine tE_S hW hr h out fun v H1 W1 t f m1 l w r1 q h out => ?_
  obtain ⟨W2, l2, _, w2, q2⟩ := freeze w q
  simp only [nxt, Option.map_eq_some_iff] at h
  obtain ⟨⟨ρ', m'⟩, hp, rfl⟩ := h
  obtain ⟨rfl, r2⟩ := putV_ok w2 (r1.mono l2) q2 hp
  exact out _ H1 W2 (l2.leS n) w2 r2
theorem s_cell (h : SA X γ c i st a) : SS X γ c st (.cell i a) := fun Wx tk n => by
  refine (h Wx tk).weak fun E σ H ⟨W, ρ, m, r, hW, hr, h, out⟩ => ?_
  simp only [exec] at h
  refine tE_S hW hr h out fun v H1 W1 t f m1 l w r1 q h out => ?_
  simp only [nxt, Option.map_eq_some_iff] at h
  obtain ⟨⟨ρ', m'⟩, hp, rfl⟩ := h
  obtain ⟨W2, l2, w2, r2, _⟩ := putC_ok (n := n) w r1 q hp
  exact out _ H1 W2 l2 w2 r2
/-- a, b, .. = e -/
theorem s_sets {is : List Nat} {tg : Expr} (he : SE X γ c x a) (hg : SG X tg (.many is)) (hs : swapsWithSole [tg] x pos.line X.env = pure false) (hw : swappedStores [tg] x X.env = pure none) (h1 : (assignEach [tg] X.env).map (·.2) = [assign tg X.env]) :
    SS X γ c (.Assign [tg] x pos) (.sets is a) := fun Wx tk n => by
  refine (ps_asg (he Wx tk) hg hs hw h1).weak fun E σ H ⟨W, ρ, m, r, hW, hr, h, out⟩ => ?_
  simp only [exec] at h
  refine tE_S hW hr h out fun v H1 W1 t f m1 l w r1 q h out => ?_
  obtain ⟨W2, l2, _, w2, q2⟩ := freeze w q
  split at h
  · rename_i xs
    split at h
    · rename_i hl
      cases h
      exact bindT_ok (tg := .many is) (d := .tup xs) w2 (r1.mono l2) q2 (by simp [bindT, hl]) fun σ2 h2 _ => out σ2 H1 W2 (l2.leS n) w2 h2
    · cases h
  · cases h
/-- (a, b), c = e -/
theorem s_setd {ts : List (Nat ⊕ List Nat)} {tg : Expr} (he : SE X γ c x a) (hg : SG X tg (.deep ts)) (hs : swapsWithSole [tg] x pos.line X.env = pure false) (hw : swappedStores [tg] x X.env = pure none) (h1 : (assignEach [tg] X.env).map (·.2) = [assign tg X.env]) :
    SS X γ c (.Assign [tg] x pos) (.setd ts a) := fun Wx tk n => by
  refine (ps_asg (he Wx tk) hg hs hw h1).weak fun E σ H ⟨W, ρ, m, r, hW, hr, h, out⟩ => ?_
  simp only [exec] at h
  refine tE_S hW hr h out fun v H1 W1 t f m1 l w r1 q h out => ?_
  obtain ⟨W2, l2, _, w2, q2⟩ := freeze w q
  split at h
  · rename_i d
    simp only [Option.map_eq_some_iff] at h
    obtain ⟨ρ2, hb, rfl⟩ := h
    exact bindT_ok (tg := .deep ts) (d := d) w2 (r1.mono l2) q2 hb fun σ2 h2 _ => out σ2 H1 W2 (l2.leS n) w2 h2
  · cases h
/-- an expression alone -/
theorem s_ex (he : SE X γ c x a) (hs : swapsWith x none pos.line X.env = pure false) : SS X γ c (.Expr x pos) (.ex a) := fun Wx tk n => by
  refine (ps_expr (he Wx tk) hs).weak fun E σ H ⟨W, ρ, m, r, hW, hr, h, out⟩ => ?_
  simp only [exec] at h
  refine tE_S hW hr h out fun v H1 W1 t f m1 l w r1 q h out => ?_
  cases h
  exact out σ H1 W1 (Wd.leS_refl n W1) w r1
theorem s_ret (he : SE X γ c x a) : SS X γ c (.Return (some x) pos) (.ret a) := fun Wx tk n => by
  refine (ps_ret (he Wx tk)).weak fun E σ H ⟨W, ρ, m, r, hW, hr, h, out⟩ => ?_
  simp only [exec] at h
  refine tE_S hW hr h out fun v H1 W1 t f m1 l w r1 q h out => ?_
  cases h
  exact out v H1 W1 (Wd.leS_refl n W1) w q
theorem s_retn : SS X γ c (.Return none pos) .retn := fun Wx tk n => by
  refine ps_retN.weak fun E σ H ⟨W, ρ, m, r, hW, hr, h, out⟩ => ?_
  simp only [exec, Option.some.injEq] at h
  subst h
  exact out .non H W (Wd.leS_refl n W) hW (by simp [RepR, RepT, Rep])
theorem s_brk : SS X γ c (.Break pos) .brk := fun Wx tk n => by
  refine ps_break.weak fun E σ H ⟨W, ρ, m, r, hW, hr, h, out⟩ => ?_
  simp only [exec, Option.some.injEq] at h
  subst h
  exact out σ H W (Wd.leS_refl n W) hW hr
theorem s_pass : SS X γ c (.Pass pos) .pass := fun Wx tk n => by
  refine ps_pass.weak fun E σ H ⟨W, ρ, m, r, hW, hr, h, out⟩ => ?_
  simp only [exec, Option.some.injEq] at h
  subst h
  exact out σ H W (Wd.leS_refl n W) hW hr
theorem s_bad : SS X γ c st .bad := fun Wx tk n => ps_never.weak fun E σ H ⟨W, ρ, m, r, hW, hr, h, out⟩ => by
  simp only [exec] at h; cases h
theorem s_ite {tt : List Stmt} {ff : List Stmt} {sa sb : List S} (hc : ST X γ c x a) (h1 : SSs X γ c tt sa) (h2 : SSs X γ c ff sb) : SS X γ c (.If x tt ff pos) (.ite a sa sb) := fun Wx tk n => by
  refine (ps_if (hc Wx tk) (h1 Wx tk n) (h2 Wx tk n)).weak fun E σ H ⟨W, ρ, m, r, hW, hr, h, out⟩ => ?_
  simp only [exec] at h
  refine tT_S (k := fun b m1 => if b = true then execs c n sa ρ m1 else execs c n sb ρ m1) hW hr h out fun b H1 W1 m1 l w r1 h out => ?_
  cases b with
  | true => exact ⟨W1, ρ, m1, r, w, r1, h, out⟩
  | false => exact ⟨W1, ρ, m1, r, w, r1, h, out⟩
theorem lim_some {α : Type} {f : Nat → Option α} {r : α} (h : lim f = some r) : ∃ k, f k = some r := by
  unfold lim at h
  split at h
  · exact ⟨_, h⟩
  · cases h
theorem s_whl {bd : List Stmt} {sb : List S} (hp : PassesOwn (model X.prog X.w) X.A X.env X.xe) (hc : ST X γ c x a) (h1 : SSs X γ c bd sb) : SS X γ c (.While x bd [] pos) (.whl a sb) := fun Wx tk n => by
  refine (ps_while hp (hc Wx tk) (h1 Wx tk n)).weak fun E σ H ⟨W0, ρ0, m0, r, hW, hr, h, out⟩ => ?_
  simp only [exec] at h
  obtain ⟨k0, h⟩ := lim_some h
  refine ⟨fun j σ H => ∃ W ρ m, W0.leS n W ∧ WOk X.K γ W m H ∧ RhoOk X.K γ W ρ σ ∧ whN (fun r m => ev c a r m) (fun r m => execs c n sb r m) j ρ m = some r, ⟨k0, W0, ρ0, m0, Wd.leS_refl n W0, hW, hr, h⟩, ?_⟩
  rintro j σ H ⟨W, ρ, m, l0, w, rr, h⟩
  have out := out.mono l0
  cases j with
  | zero => cases h
  | succ j =>
    simp only [whN] at h
    cases he : ev c a ρ m with
    | none => rw [he] at h; cases h
    | some r0 =>
      rw [he] at h
      refine ⟨W, ρ, m, r0, w, rr, he, ?_⟩
      cases r0 with
      | ex e m1 =>
        have h' : some (RS.ex e ρ m1) = some r := h
        cases h'
        exact fun cls da H' W' l w q => out cls da σ H' W' (l.leS n) w (rr.mono l) q
      | ok t f m1 =>
        simp only [Option.bind_eq_some_iff] at h
        obtain ⟨d, e1, b, e2, h⟩ := h
        refine ⟨d, b, e1, e2, fun H1 W1 l w1 => ?_⟩
        have out := out.mono (l.leS n)
        cases b with
        | false =>
          simp only [Bool.false_eq_true, if_false, Option.some.injEq] at h ⊢
          subst h
          exact out σ H1 W1 (Wd.leS_refl n W1) w1 (rr.mono l)
        | true =>
          simp only [if_true] at h ⊢
          refine ⟨fun σ' H' => ∃ W ρ m, W0.leS n W ∧ WOk X.K γ W m H' ∧ RhoOk X.K γ W ρ σ' ∧ whN (fun r m => ev c a r m) (fun r m => execs c n sb r m) j ρ m = some r, fun σ' H' ⟨W, ρ, m, a1, a2, a3, a4⟩ => ⟨j, Nat.lt_succ_self j, W, ρ, m, a1, a2, a3, a4⟩, ?_⟩
          cases hb : execs c n sb ρ m1 with
          | none => rw [hb] at h; cases h
          | some r1 =>
            rw [hb] at h
            refine ⟨W1, ρ, m1, r1, w1, rr.mono l, hb, ?_⟩
            cases r1 with
            | nx ρ2 m2 => exact fun σ' H' W' l' w' r' => ⟨W', ρ2, m2, (l0.trans (l.leS n)).trans l', w', r', h⟩
            | bk ρ2 m2 => cases h; exact out
            | rt t2 f2 m2 => cases h; exact out
            | ex e ρ2 m2 => cases h; exact out
theorem s_for {tg it : Expr} {t : Tg} {bd : List Stmt} {sb : List S} (hp : PassesOwn (model X.prog X.w) X.A X.env X.xe) (hc : X.calm = true) (hi : SI X γ c tg it a) (hg : SG X tg t) (h1 : SSs X γ c bd sb) (hs : ∀ x, foldedSetIterable it X.env x = pure x) :
    SS X γ c (.For tg it bd [] pos) (.for t a sb) := fun Wx tk n => by
  refine ⟨fun pins s σ H E I ⟨W0, ρ0, m0, r, hW, hr, h, out⟩ => ?_⟩
  simp only [exec] at h
  cases he : evI c a ρ0 m0 with
  | none => rw [he] at h; cases h
  | some ri =>
    rw [he] at h
    -- how far the cells are bound in the body
    have key : ∀ q : Nat, (∀ ds at_ m1, ri = .ok ds at_ m1 → lock n at_ = q) → (tFor (tI X.K γ c a Wx) (gTg X.K t) (tSs X.K γ c q sb Wx)) E σ H := by
      intro q hq
      refine ⟨W0, ρ0, m0, ri, hW, hr, he, ?_⟩
      cases ri with
      | ex e m1 =>
        have h' : some (RS.ex e ρ0 m1) = some r := h
        cases h'
        exact fun cls da H' W' l w q => out cls da σ H' W' (l.leS n) w (hr.mono l) q
      | ok ds at_ m1 =>
        have hq := hq ds at_ m1 rfl
        have hnq : n ≤ q := by rw [← hq]; cases at_ <;> simp [lock]; omega
        have h0q : lock 0 at_ ≤ q := by rw [← hq]; cases at_ <;> simp [lock]; omega
        intro J H1 W1 l1 w1 st it
        have h : forL t (fun r m => execs c q sb r m) at_ ds ρ0 m1 = some r := by rw [← hq]; exact h
        have out := (out.mono (l1.leS n)).down hnq
        refine ⟨fun j mm σ H => ∃ W ρ m, W1.leS q W ∧ WOk X.K γ W m H ∧ RhoOk X.K γ W ρ σ ∧ stay m ds at_ ∧ mm = ds.length - j ∧ j ≤ ds.length ∧ forL t (fun r m => execs c q sb r m) at_ (ds.drop j) ρ m = some r,
          ⟨_, W1, ρ0, m1, Wd.leS_refl q W1, w1, hr.mono l1, st, rfl, Nat.zero_le _, h⟩, ?_⟩
        rintro j mm σ H ⟨W, ρ, m, l, w, rr, st, rfl, hj, h⟩
        have out := out.mono l
        have lf : W1.lef (lock 0 at_) W := l.lef.mono h0q
        by_cases hlt : j < ds.length
        · refine .inr ⟨it.go W m H j lf w st hlt, fun σ' H' => ∃ W ρ m, W1.leS q W ∧ WOk X.K γ W m H' ∧ RhoOk X.K γ W ρ σ' ∧ stay m ds at_ ∧ forL t (fun r m => execs c q sb r m) at_ (ds.drop (j + 1)) ρ m = some r, ?_, ?_⟩
          · rintro σ' H' ⟨W, ρ, m, a1, a2, a3, a4, a5⟩
            exact ⟨ds.length - (j + 1), by omega, W, ρ, m, a1, a2, a3, a4, rfl, hlt, a5⟩
          · intro x H' hy
            obtain ⟨d, W2, ed, l2, w2, q2⟩ := it.yld W m H j x H' lf w st hlt hy
            have ed' : ds[j] = d := by rw [List.getElem?_eq_getElem hlt] at ed; exact Option.some.inj ed
            rw [List.drop_eq_getElem_cons hlt, ed', forL] at h
            obtain ⟨ρ1, hb, h⟩ := Option.bind_eq_some_iff.mp h
            refine bindT_ok w2 (rr.mono l2) q2 hb fun σ2 hr2 _ => ?_
            have out := out.mono (l2.leS q)
            cases hx : execs c q sb ρ1 m with
            | none => rw [hx] at h; cases h
            | some r1 =>
              rw [hx] at h
              refine ⟨W2, ρ1, m, r1, w2, hr2, hx, ?_⟩
              cases r1 with
              | nx ρ2 m2 =>
                simp only at h
                split at h
                · rename_i hs
                  refine fun σ' H' W' l' w' r' => ⟨W', ρ2, m2, (l.trans (l2.leS q)).trans l', w', r', ?_, h⟩
                  cases at_ with
                  | none => trivial
                  | some k =>
                    simp only [still, decide_eq_true_eq] at hs
                    show m2[k]? = _
                    rw [hs]; exact st
                · cases h
              | bk ρ2 m2 => cases h; exact out
              | rt t2 f2 m2 => cases h; exact out
              | ex e ρ2 m2 => cases h; exact out
        · have e : j = ds.length := by omega
          subst e
          refine .inl ⟨it.stop W m H _ lf w st (Nat.le_refl _), ?_⟩
          rw [List.drop_length] at h
          simp only [forL, Option.some.injEq] at h
          subst h
          exact out σ H W (Wd.leS_refl q W) w rr
    cases ri with
    | ex e m1 => exact (ps_for (pos := pos) hp hc (hi Wx tk) hg (h1 Wx tk n) hs).run pins s σ H E I (key n fun _ _ _ e => by cases e)
    | ok ds at_ m1 => exact (ps_for (pos := pos) hp hc (hi Wx tk) hg (h1 Wx tk (lock n at_)) hs).run pins s σ H E I (key _ fun _ _ _ e => by cases e; rfl)
end
end PY

set_option Elab.async false
set_option linter.all false
set_option maxRecDepth 100000
/-! PyN -/
namespace PY
open PySem PySem.Spec PyProof.Rows L2

section
variable {X : L2.Cx} {γ : Nm} {c : Cz} {k : Nat} {x y : Expr} {a b : PY.E} {pos p p2 ap : Pos} {i : Nat} {nm : Str}
/-- where no comprehension stands nothing is swapped -/
theorem sw_call {f : Expr} {es : List Expr} {ks : List Keyword} {tg : Option Expr} {l : Nat} {env : Env} : swapsWith (.Call f es ks pos) tg l env = pure false := rfl
theorem cellAt_ok {K : PySem.W.Frag} {W : Wd} {m : Mu} {H : Hp} {ρ : Rho} {σ : L2.St} {q : Nat} (hW : WOk K γ W m H) (hr : RhoOk K γ W ρ σ) (h : cellAt ρ m i = some q) : ∃ a xs, σ[i]? = some (some (.ref a)) ∧ W.f q = some a ∧ m[q]? = some (.lst xs) ∧ ∃ vs, H a = some (.lst vs) ∧ Reps K γ W xs vs := by
  unfold cellAt at h
  split at h
  · rename_i k hk
    split at h
    · rename_i xs hm
      cases h
      simp only [getV, Option.bind_eq_some_iff, id] at hk
      obtain ⟨_, hk, rfl⟩ := hk
      obtain ⟨v, e1, a, rfl, f⟩ := hr.get i _ hk
      obtain ⟨a', f2, q, _⟩ := hW.c _ _ hm
      rw [f] at f2; cases f2
      exact ⟨a, xs, e1, f, hm, q⟩
    · cases h
  · cases h
theorem cell_now {K : PySem.W.Frag} {W : Wd} {m : Mu} {H : Hp} {q : Nat} {a : Addr} {xs : List D} (hW : WOk K γ W m H) (f : W.f q = some a) (hm : m[q]? = some (.lst xs)) : ∃ vs, H a = some (.lst vs) ∧ Reps K γ W xs vs := by
  obtain ⟨a', f2, q, _⟩ := hW.c _ _ hm
  rw [f] at f2; cases f2
  exact q
/-- n.append(e) -/
theorem s_app (hN : X.N[i]? = some nm) (hv : Vis X.env.scope nm) (hdb : (nm == ("__debug__" : Str)) = false) (hcd : (nm == ("__classdict__" : Str)) = false) (ha : SE X γ c x a)
    (hbase : attributeBase (.Name nm p) "append" X.env (eval (.Name nm p) X.env) = eval (.Name nm p) X.env)
    (hfew : ((backTo pos (starEach [x] X.env)).all (fun x => !x.1) && (backToKw pos (keywordEach [] X.env)).all (fun x => x.1.isSome) && decide ([x].length + ([] : List Keyword).length + (if ([] : List Keyword).isEmpty then 0 else 1) < 30)) = true)
    (hline : (ap.endLine == pos.line) = true) (hs : starEach [x] X.env = (false, eval x X.env) :: starEach [] X.env) :
    SS X γ c (.Expr (.Call (.Attribute (.Name nm p) "append" ap) [x] [] pos) p2) (.app i a) := fun Wx tk n => by
  refine (ps_expr (pe_bm F.plainAttrs_list F.slot_list_append F.type_list_append mt_append (pe_var (pos := p) hN hv hdb hcd) (pa_cons (ha Wx tk) pa_nil hs) hbase hfew hline hs rfl) sw_call).weak fun E σ H ⟨W, ρ, m, r, hW, hr, h, out⟩ => ?_
  simp only [exec] at h
  obtain ⟨q, hq, h⟩ := Option.bind_eq_some_iff.mp h
  obtain ⟨ad, xs, e1, f, hm, vs, e2, _⟩ := cellAt_ok hW hr hq
  refine ⟨.ref ad, e1, .inl ⟨rfl, vs, .of e2⟩, ?_⟩
  refine tE_S hW hr h out fun v H1 W1 t fr m1 l w r1 q1 h out => ?_
  obtain ⟨W2, l2, _, w2, q2⟩ := freeze w q1
  have f2 := l2.2 _ _ (l.2 _ _ f)
  split at h
  · rename_i hm1
    split at h
    · rename_i hz
      cases h
      obtain ⟨us, e3, r3⟩ := cell_now w2 f2 hm1
      refine ⟨ad, us, v, rfl, rfl, e3, by rw [r3.length, ← line_eq]; exact hz, ?_⟩
      exact out σ _ W2 (l2.leS n) (w2.setCell f2 hm1 (r3.append (reps_cons q2 reps_nil))) (r1.mono l2)
    · cases h
  · cases h
/-- n.extend(e), e a new list -/
theorem s_ext (hN : X.N[i]? = some nm) (hv : Vis X.env.scope nm) (hdb : (nm == ("__debug__" : Str)) = false) (hcd : (nm == ("__classdict__" : Str)) = false) (ha : SE X γ c x a)
    (hbase : attributeBase (.Name nm p) "extend" X.env (eval (.Name nm p) X.env) = eval (.Name nm p) X.env)
    (hfew : ((backTo pos (starEach [x] X.env)).all (fun x => !x.1) && (backToKw pos (keywordEach [] X.env)).all (fun x => x.1.isSome) && decide ([x].length + ([] : List Keyword).length + (if ([] : List Keyword).isEmpty then 0 else 1) < 30)) = true)
    (hline : (ap.endLine == pos.line) = true) (hs : starEach [x] X.env = (false, eval x X.env) :: starEach [] X.env) :
    SS X γ c (.Expr (.Call (.Attribute (.Name nm p) "extend" ap) [x] [] pos) p2) (.ext i a) := fun Wx tk n => by
  refine (ps_expr (pe_bm F.plainAttrs_list F.slot_list_extend F.type_list_extend mt_extend (pe_var (pos := p) hN hv hdb hcd) (pa_cons (ha Wx tk) pa_nil hs) hbase hfew hline hs rfl) sw_call).weak fun E σ H ⟨W, ρ, m, r, hW, hr, h, out⟩ => ?_
  simp only [exec] at h
  obtain ⟨q, hq, h⟩ := Option.bind_eq_some_iff.mp h
  obtain ⟨ad, xs, e1, f, hm, vs, e2, _⟩ := cellAt_ok hW hr hq
  refine ⟨.ref ad, e1, .inl ⟨rfl, vs, .of e2⟩, ?_⟩
  refine tE_S hW hr h out fun v H1 W1 t fr m1 l w r1 q1 h out => ?_
  have f2 := l.2 _ _ f
  split at h
  · rename_i hm1
    split at h
    · rename_i hz
      cases h
      obtain ⟨us, e3, r3⟩ := cell_now w f2 hm1
      obtain ⟨ad2, ws, rfl, e4, r4, _⟩ := q1
      refine ⟨ad, ad2, us, ws, rfl, rfl, e3, e4, by rw [r3.length, r4.length, ← line_eq]; exact hz, ?_⟩
      exact out σ _ W1 (Wd.leS_refl n W1) (w.setCell f2 hm1 (r3.append r4)) r1
    · cases h
  · cases h
/-- n[e] = e -/
theorem s_sub (hN : X.N[i]? = some nm) (hv : Vis X.env.scope nm) (hdb : (nm == ("__debug__" : Str)) = false) (hcd : (nm == ("__classdict__" : Str)) = false) (ha : SE X γ c x a) (hb : SE X γ c y b)
    (hs : swapsWithSole [.Subscript (.Name nm p) y ap] x pos.line X.env = pure false) (hw : swappedStores [.Subscript (.Name nm p) y ap] x X.env = pure none)
    (has : ∀ v, assign (.Subscript (.Name nm p) y ap) X.env v = (do
      let ov ← holding [v] (eval (.Name nm p) X.env)
      let iv ← holding [v, ov] (eval y X.env)
      standAt ap
      holding [v, ov, iv] (setItem ov iv v)
      release [v, ov, iv] [])) : SS X γ c (.Assign [.Subscript (.Name nm p) y ap] x pos) (.sub i b a) := fun Wx tk n => by
  refine (ps_asg (ha Wx tk) (pg_sub (pe_var (pos := p) hN hv hdb hcd) (hb Wx tk) set_list has) hs hw rfl).weak fun E σ H ⟨W, ρ, m, r, hW, hr, h, out⟩ => ?_
  simp only [exec] at h
  obtain ⟨q, hq, h⟩ := Option.bind_eq_some_iff.mp h
  obtain ⟨ad, xs, e1, f, hm, vs, e2, _⟩ := cellAt_ok hW hr hq
  refine tE_S hW hr h out fun v H1 W1 t fr m1 l w r1 q1 h out => ?_
  obtain ⟨W2, l2, _, w2, q2⟩ := freeze w q1
  cases t with
  | loc j => cases h
  | val d =>
    refine ⟨.ref ad, e1, ?_⟩
    refine tE_S w2 (r1.mono l2) h (out.mono (l2.leS n)) fun u H3 W3 t3 fr3 m3 l3 w3 r3 q3 h out => ?_
    obtain ⟨W4, l4, _, w4, q4⟩ := freeze w3 q3
    have f4 := l4.2 _ _ (l3.2 _ _ (l2.2 _ _ (l.2 _ _ f)))
    split at h
    · rename_i j zs hm3
      simp only [Option.map_eq_some_iff] at h
      obtain ⟨ys, hy, rfl⟩ := h
      cases j <;> simp only [setL] at hy <;> first | (cases hy; done) | skip
      case int kk =>
        simp only [Option.map_eq_some_iff] at hy
        obtain ⟨jj, hj, rfl⟩ := hy
        obtain ⟨us, e3, r5⟩ := cell_now w4 f4 hm3
        have eu : u = .int kk := by simpa [RepT, Rep] using q4
        refine ⟨ad, us, kk, jj, rfl, eu, e3, ?_, ?_⟩
        · rw [r5.length]; exact hj
        · exact out σ _ W4 (l4.leS n) (w4.setCell f4 hm3 (Reps.set ((q2.mono l3).mono l4) jj r5)) (r3.mono l4)
    · cases h
theorem augI_int {op : Operator} {u v : D} {z : Int} (h : augI op u v = some z) : ∃ a b, u = .int a ∧ v = .int b := by
  unfold augI at h
  split at h
  · exact ⟨_, _, rfl, rfl⟩
  · cases h
theorem s_aug {op : Operator} {g : Int → Int → Int} (ho : PIp X op (ipI g)) (hg : ∀ a b z, augI op (.int a) (.int b) = some z → z = g a b) (hN : X.N.Nodup) (hi : X.N[i]? = some nm) (hx : Loc X.env.scope nm) (he : SE X γ c x a) (hf : X.fn nm = true ∨ X.env.scope.names.lookup nm = some .local) : SS X γ c (.AugAssign (.Name nm p) op x pos) (.aug i op a) := fun Wx tk n => by
  refine (ps_aug (pos' := p) hN hi hx (he Wx tk) ho hf).weak fun E σ H ⟨W, ρ, m, r, hW, hr, h, out⟩ => ?_
  simp only [exec] at h
  obtain ⟨t0, h0, h⟩ := Option.bind_eq_some_iff.mp h
  simp only [getV, Option.bind_eq_some_iff, id] at h0
  obtain ⟨_, h0, rfl⟩ := h0
  obtain ⟨v0, e0, q0⟩ := hr.get i _ h0
  refine ⟨v0, e0, ?_⟩
  refine tE_S hW hr h out fun v H1 W1 t fr m1 l w r1 q1 h out => ?_
  obtain ⟨W2, l2, _, w2, q2⟩ := freeze w q1
  cases t0 with
  | loc j => cases h
  | val u =>
    cases t with
    | loc j => cases h
    | val u' =>
      simp only [Option.bind_eq_some_iff, nxt, Option.map_eq_some_iff] at h
      obtain ⟨z, hz, ⟨ρ', m'⟩, hp, rfl⟩ := h
      obtain ⟨a', b', rfl, rfl⟩ := augI_int hz
      have e1 : v0 = .int a' := by simpa [RepT, Rep] using q0
      have e2 : v = .int b' := by simpa [RepT, Rep] using q2
      subst e1 e2
      obtain ⟨rfl, r2⟩ := putV_ok (v := .int z) w2 (r1.mono l2) (by simp [RepT, Rep]) hp
      refine ⟨a', b', rfl, rfl, ?_⟩
      rw [← hg a' b' z hz]
      exact out _ H1 W2 (l2.leS n) w2 r2
theorem s_augA (hN : X.N.Nodup) (hi : X.N[i]? = some nm) (hx : Loc X.env.scope nm) (he : SE X γ c x a) (hf : X.fn nm = true ∨ X.env.scope.names.lookup nm = some .local) : SS X γ c (.AugAssign (.Name nm p) .Add x pos) (.aug i .Add a) :=
  s_aug ip_add (fun a b z h => by simpa [augI, eq_comm] using h) hN hi hx he hf
theorem s_augS (hN : X.N.Nodup) (hi : X.N[i]? = some nm) (hx : Loc X.env.scope nm) (he : SE X γ c x a) (hf : X.fn nm = true ∨ X.env.scope.names.lookup nm = some .local) : SS X γ c (.AugAssign (.Name nm p) .Sub x pos) (.aug i .Sub a) :=
  s_aug ip_sub (fun a b z h => by simpa [augI, eq_comm] using h) hN hi hx he hf
/-- n = [elt for .. ], swapped with the name -/
theorem sa_cmpr {elt tg iter : Expr} {ifs : List Expr} {e ei : PY.E} {conds : List PY.E} {t : Tg} {scope : Scope} {own : List (Str × Nat)} {spos : Pos} (hc : X.calm = true) (hN : X.N.Nodup) (hy : X.N[i]? = some nm) (hyl : X.env.scope.names.lookup nm = some .local)
    (hsw : swapsWith (.ListComp elt [⟨tg, iter, ifs, 0⟩] scope pos) (some (.Name nm p)) spos.line X.env = pure true)
    (hi : SI X γ c tg iter ei) (ok : BlkOk X.N X.env.scope scope own) (hv : ∀ i ∈ t.ix, i ∈ own.map (·.2))
    (hg : ∀ (s : Shared) (H : Hp) (C : Addr) (cl : List (Str × Addr)) (fp : List Addr), SG (X.blk s H scope (compEnvC scope cl C X.env) fp) tg t)
    (ht : ∀ (s : Shared) (H : Hp) (C : Addr) (cl : List (Str × Addr)) (fp : List Addr), SCs (X.blk s H scope (compEnvC scope cl C X.env) fp) γ c ifs conds)
    (he : ∀ (s : Shared) (H : Hp) (C : Addr) (cl : List (Str × Addr)) (fp : List Addr), SE (X.blk s H scope (compEnvC scope cl C X.env) fp) γ c elt e)
    (hs : ∀ x, foldedSetIterable iter X.env x = pure x) : SA X γ c i (.Assign [.Name nm p] (.ListComp elt [⟨tg, iter, ifs, 0⟩] scope pos) spos) (.cmpr e t ei conds (own.map (·.2))) := fun Wx tk =>
  (ps_setLc (pos := pos) (g := gTg X.K t) (tt := fun σ H Q => ∃ W ρ m r, WOk X.K γ W m H ∧ RhoOk X.K γ W ρ σ ∧ evC c conds ρ m = some r ∧ OutT X.K γ W (fun _ _ _ _ => False) σ r Q) (te := tE X.K γ c e fun _ _ _ _ => False) hc hN hy hyl hsw (hi Wx tk) ok hg (fun s H C cl fp => ht s H C cl fp _ takes0) (fun s H C cl fp => he s H C cl fp _ takes0) hs).weak
    fun _ _ _ h => tE_cmpr hv h
end
end PY

set_option Elab.async false
set_option linter.all false
set_option maxRecDepth 100000
/-! PyP -/
namespace PY
open PySem PySem.Spec PyProof.Rows L2

def RepRs (K : PySem.W.Frag) (γ : Nm) (W : Wd) (H : Hp) : List (T × Bool) → List V → Prop
  | [], vs => vs = []
  | p :: ts, vs => ∃ v r, vs = v :: r ∧ RepR K γ W H p.1 p.2 v ∧ (p.2 = true → ∀ (n : Nat) (q : T × Bool) (u : V), ts[n]? = some q → r[n]? = some u → q.2 = true → u ≠ v) ∧ RepRs K γ W H ts r
def OutF (K : PySem.W.Frag) (γ : Nm) (W : Wd) (Wx : WX) (σ : L2.St) (r : RF) (Q : List V → Hp → Prop) : Prop :=
  match r with
  | .ok ts m => ∀ vs H' W', W.le W' → WOk K γ W' m H' → RepRs K γ W' H' ts vs → Q vs H'
  | .ex e m => ∀ cls da H' W', W.le W' → WOk K γ W' m H' → RepX K γ W' e cls da → Wx cls da σ H'
def tEF (K : PySem.W.Frag) (γ : Nm) (c : Cz) (es : List PY.E) (Wx : WX) : TA := fun σ H Q =>
  ∃ W ρ m r, WOk K γ W m H ∧ RhoOk K γ W ρ σ ∧ evF c es ρ m = some r ∧ OutF K γ W Wx σ r Q
def SF (X : L2.Cx) (γ : Nm) (c : Cz) (xs : List Expr) (es : List PY.E) : Prop := ∀ Wx : WX, Takes X Wx → PA X xs (tEF X.K γ c es Wx)
section
variable {K : PySem.W.Frag} {γ : Nm} {W W1 : Wd} {m : Mu} {H : Hp} {ρ : Rho} {σ : L2.St} {Wx : WX} {c : Cz}
theorem OutF.mono {r : RF} {Q : List V → Hp → Prop} (h : OutF K γ W Wx σ r Q) (l : W.le W1) : OutF K γ W1 Wx σ r Q := by
  cases r with
  | ok ts m => exact fun vs H' W' l' => h vs H' W' (l.trans l')
  | ex e m => exact fun cls da H' W' l' => h cls da H' W' (l.trans l')
theorem WOk.hold {a : Addr} {o : HO} (w : WOk K γ W m H) (e : H a = some o) (z : W.z a = none) (f : ∀ n, W.f n ≠ some a) : WOk K γ (W.put W.h a o) m H := by
  refine ⟨w.z, w.k, fun n u e1 => ?_, w.inj, w.len, fun b u e1 => ?_⟩
  · obtain ⟨b, f1, ob⟩ := w.c n u e1
    exact ⟨b, f1, ob.zf rfl⟩
  · simp only [Wd.put] at e1
    split at e1
    · rename_i hb
      subst hb
      cases e1
      exact ⟨e, z, f⟩
    · exact w.hh b u e1
theorem RepT.zf {W' : Wd} {t : T} {v : V} (h : RepT K γ W t v) (z : ∀ a o, W.z a = some o → W'.z a = some o) (f : ∀ n a, W.f n = some a → W'.f n = some a) : RepT K γ W' t v := by
  cases t with
  | val d => exact Rep.zz z h
  | loc n => obtain ⟨a, e, q⟩ := h; exact ⟨a, e, f n a q⟩
/-- less is told beside -/
theorem RepRs.unh {h0 : Addr → Option HO} {H : Hp} (hb : ∀ b, W.h b = none → h0 b = none) : ∀ {ts : List (T × Bool)} {vs : List V}, RepRs K γ W H ts vs → RepRs K γ ⟨W.z, W.f, h0⟩ H ts vs
  | [], _, q => q
  | p :: ts, vs, ⟨v, r, e, q1, q2, q3⟩ => by
    refine ⟨v, r, e, ?_, q2, RepRs.unh hb q3⟩
    obtain ⟨t, fr⟩ := p
    cases fr with
    | false => exact RepT.zf q1 (fun _ _ e => e) fun _ _ e => e
    | true =>
      cases t with
      | loc n => exact q1
      | val d =>
        cases d <;> first | exact q1 | skip
        case lst xs =>
          obtain ⟨a, vs, e1, e2, r1, z, f, h⟩ := q1
          exact ⟨a, vs, e1, e2, r1.zq rfl, z, f, hb a h⟩
end
section
variable {X : L2.Cx} {γ : Nm} {c : Cz} {x : Expr} {e : PY.E} {xs : List Expr} {es : List PY.E}
theorem sf_nil : SF X γ c [] [] := fun Wx _ => by
  refine pa_nil.weak fun σ H Q ⟨W, ρ, m, r, hW, hr, h, out⟩ => ?_
  simp only [evF, Option.some.injEq] at h
  subst h
  exact out [] H W (Wd.le_refl W) hW rfl
theorem sf_cons (ha : SE X γ c x e) (hb : SF X γ c xs es) (hs : starEach (x :: xs) X.env = (false, eval x X.env) :: starEach xs X.env) : SF X γ c (x :: xs) (e :: es) := fun Wx tk => by
  refine (pa_cons (ha Wx tk) (hb Wx tk) hs).weak fun σ H Q ⟨W, ρ, m, r, hW, hr, h, out⟩ => ?_
  simp only [evF] at h
  cases he : ev c e ρ m with
  | none => rw [he] at h; cases h
  | some r0 =>
    rw [he] at h
    refine ⟨W, ρ, m, r0, hW, hr, he, ?_⟩
    cases r0 with
    | ex e m1 =>
      have h' : some (RF.ex e m1) = some r := h
      cases h'
      exact out
    | ok t fr m1 =>
      intro v H' W' l w q
      have h : (match evF c es ρ m1 with
        | none => none
        | some (.ex e m2) => some (.ex e m2)
        | some (.ok ts m2) => some (RF.ok ((t, fr) :: ts) m2)) = some r := h
      have out := out.mono l
      cases fr with
      | false =>
        cases hl : evF c es ρ m1 with
        | none => rw [hl] at h; cases h
        | some r1 =>
          rw [hl] at h
          refine ⟨W', ρ, m1, r1, w, hr.mono l, hl, ?_⟩
          cases r1 with
          | ex e m2 =>
            have h' : some (RF.ex e m2) = some r := h
            cases h'
            exact out
          | ok ts m2 =>
            have h' : some (RF.ok ((t, false) :: ts) m2) = some r := h
            cases h'
            exact fun vs H'' W'' l3 w3 q3 => out (v :: vs) H'' W'' l3 w3 ⟨v, vs, rfl, q.mono l3, fun e => (Bool.noConfusion e), q3⟩
      | true =>
        cases t with
        | loc n => exact q.elim
        | val d =>
          obtain ⟨ys, rfl⟩ : ∃ ys, d = .lst ys := by
            cases d <;> first | exact (show False from q).elim | exact ⟨_, rfl⟩
          · obtain ⟨a, us, rfl, e1, r1, z1, f1, h1⟩ := q
            have w2 := w.hold e1 z1 f1
            have hb2 : ∀ b, (W'.put W'.h a (.lst us)).h b = none → W'.h b = none ∧ b ≠ a := fun b e => by
              simp only [Wd.put] at e
              split at e
              · cases e
              · rename_i hne
                exact ⟨e, hne⟩
            cases hl : evF c es ρ m1 with
            | none => rw [hl] at h; cases h
            | some r2 =>
              rw [hl] at h
              refine ⟨W'.put W'.h a (.lst us), ρ, m1, r2, w2, (hr.mono l).zz (fun _ _ e => e) fun _ _ e => e, hl, ?_⟩
              have un : ∀ {W'' : Wd} {H'' : Hp} {m2 : Mu}, (W'.put W'.h a (.lst us)).le W'' → WOk X.K γ W'' m2 H'' → W'.le ⟨W''.z, W''.f, W'.h⟩ ∧ WOk X.K γ ⟨W''.z, W''.f, W'.h⟩ m2 H'' := fun {W'' H'' m2} l3 w3 => by
                refine ⟨⟨l3.1, l3.2, rfl⟩, w3.drop fun b o e => ?_⟩
                rw [l3.3]
                show (if b = a then _ else _) = _
                rw [if_neg fun q => by rw [q, h1] at e; cases e]
                exact e
              cases r2 with
              | ex e m2 =>
                have h' : some (RF.ex e m2) = some r := h
                cases h'
                intro cls da H'' W'' l3 w3 q3
                obtain ⟨l4, w4⟩ := un l3 w3
                obtain ⟨c1, d1, C, a1, v1, x1, x2, x3, x4, x5, x6⟩ := q3
                exact out cls da H'' _ l4 w4 ⟨c1, d1, C, a1, v1, x1, x2, x3, x4, x5, x6.zq rfl⟩
              | ok ts m2 =>
                have h' : some (RF.ok ((.val (.lst ys), true) :: ts) m2) = some r := h
                cases h'
                intro vs H'' W'' l3 w3 q3
                obtain ⟨l4, w4⟩ := un l3 w3
                obtain ⟨y1, y2, y3⟩ := w3.hh a (.lst us) (by rw [l3.3]; simp [Wd.put])
                refine out (.ref a :: vs) H'' _ l4 w4 ⟨.ref a, vs, rfl, ⟨a, us, rfl, y1, (Reps.zz (W' := W'') l3.1 (show Reps X.K γ (W'.put W'.h a (.lst us)) ys us from r1.zq rfl)).zq rfl, y2, y3, h1⟩, fun _ n q u g1 g2 g3 => ?_, q3.unh fun b e => (hb2 b (by rw [← l3.3]; exact e)).1⟩
                -- the others lie elsewhere
                have : ∀ {ts : List (T × Bool)} {vs : List V} {n : Nat}, RepRs X.K γ W'' H'' ts vs → ts[n]? = some q → vs[n]? = some u → q.2 = true → u ≠ .ref a := by
                  intro ts
                  induction ts with
                  | nil => intro vs n _ g; simp at g
                  | cons p ts ih =>
                    intro vs n ⟨v, r, e, k1, k2, k3⟩ g1 g2 g3
                    subst e
                    cases n with
                    | succ n => exact ih k3 (by simpa using g1) (by simpa using g2) g3
                    | zero =>
                      simp at g1 g2
                      subst g1 g2
                      obtain ⟨t, fr⟩ := p
                      simp only at g3
                      subst g3
                      cases t with
                      | loc n => exact (show False from k1).elim
                      | val d =>
                        cases d <;> first | exact (show False from k1).elim | skip
                        case lst zs =>
                          obtain ⟨a2, us2, e2, _, _, _, _, h2⟩ := k1
                          rw [e2]
                          intro e3
                          cases e3
                          rw [l3.3] at h2
                          exact (hb2 a h2).2 rfl
                exact this q3 g1 g2 g3
end
/-- the slots' values put in -/
def setsS (σ : L2.St) : List Nat → List V → L2.St
  | i :: is, v :: vs => setsS (σ.set i (some v)) is vs
  | _, _ => σ
section
variable {K : PySem.W.Frag} {γ : Nm} {n : Nat}
theorem RepR.cell {W : Wd} {m : Mu} {H : Hp} {t : T} {fr : Bool} {v : V} {a : Addr} (w : WOk K γ W m H) (q : RepR K γ W H t fr v) (ne : fr = true → v ≠ .ref a) : RepR K γ (W.cell m.length a) H t fr v := by
  cases fr with
  | false => exact RepT.mono (Wd.le_cell w) q
  | true =>
    cases t with
    | loc n => exact q
    | val d =>
      cases d <;> first | exact q | skip
      case lst xs =>
        obtain ⟨a2, vs, e1, e2, r1, z, f, h⟩ := q
        refine ⟨a2, vs, e1, e2, r1.zq rfl, z, fun j e => ?_, h⟩
        simp only [Wd.cell] at e
        split at e
        · cases e; exact ne rfl e1
        · exact f j e
theorem RepR.frz {W : Wd} {m : Mu} {H : Hp} {t : T} {fr : Bool} {v : V} {a : Addr} {o : HO} (z0 : W.z a = none) (q : RepR K γ W H t fr v) (ne : fr = true → v ≠ .ref a) : RepR K γ (W.frz a o) H t fr v := by
  cases fr with
  | false => exact RepT.mono (Wd.le_frz (.inl z0)) q
  | true =>
    cases t with
    | loc n => exact q
    | val d =>
      cases d <;> first | exact q | skip
      case lst xs =>
        obtain ⟨a2, vs, e1, e2, r1, z, f, h⟩ := q
        refine ⟨a2, vs, e1, e2, r1.mono (Wd.le_frz (.inl z0)), ?_, f, h⟩
        have : a2 ≠ a := fun q => ne rfl (by rw [e1, q])
        simp [Wd.frz, this, z]
theorem RepRs.map {W W' : Wd} {H : Hp} {P : Bool → V → Prop} (g : ∀ t fr v, RepR K γ W H t fr v → P fr v → RepR K γ W' H t fr v) : ∀ {ts : List (T × Bool)} {vs : List V}, RepRs K γ W H ts vs → (∀ (n : Nat) (q : T × Bool) (u : V), ts[n]? = some q → vs[n]? = some u → P q.2 u) → RepRs K γ W' H ts vs
  | [], _, q, _ => q
  | p :: ts, vs, ⟨v, r, e, q1, q2, q3⟩, hp => ⟨v, r, e, g p.1 p.2 v q1 (hp 0 p v rfl (by rw [e]; rfl)), q2, RepRs.map g q3 fun n q u g1 g2 => hp (n + 1) q u (by simpa using g1) (by rw [e]; simpa using g2)⟩
theorem putP_ok : ∀ {is : List Nat} {cs : List Bool} {ts : List (T × Bool)} {vs : List V} {W : Wd} {m : Mu} {H : Hp} {ρ : Rho} {σ : L2.St} {ρ' : Rho} {m' : Mu}, WOk K γ W m H → RhoOk K γ W ρ σ → RepRs K γ W H ts vs → putP is cs ts ρ m = some (ρ', m') →
    ∃ W', W.le W' ∧ WOk K γ W' m' H ∧ RhoOk K γ W' ρ' (setsS σ is vs) ∧ vs.length = is.length
  | [], [], [], vs, W, m, H, ρ, σ, ρ', m', w, hr, q, h => by
    simp only [putP, Option.some.injEq, Prod.mk.injEq] at h
    obtain ⟨rfl, rfl⟩ := h
    have q' : vs = [] := q
    subst q'
    exact ⟨W, Wd.le_refl W, w, hr, rfl⟩
  | i :: is, cb :: cs, p :: ts, vs, W, m, H, ρ, σ, ρ', m', w, hr, ⟨v, r, e, q1, q2, q3⟩, h => by
    subst e
    simp only [putP, Option.bind_eq_some_iff] at h
    obtain ⟨⟨ρ1, m1⟩, h1, h2⟩ := h
    obtain ⟨t, fr⟩ := p
    have other : fr = true → ∀ (n : Nat) (q : T × Bool) (u : V), ts[n]? = some q → r[n]? = some u → (q.2 = true → u ≠ v) := fun e n q u g1 g2 g3 => q2 e n q u g1 g2 g3
    have go : ∀ {W1 : Wd}, W.le W1 → WOk K γ W1 m1 H → RhoOk K γ W1 ρ1 (σ.set i (some v)) → RepRs K γ W1 H ts r → ∃ W', W.le W' ∧ WOk K γ W' m' H ∧ RhoOk K γ W' ρ' (setsS σ (i :: is) (v :: r)) ∧ (v :: r).length = (i :: is).length := by
      intro W1 l1 w1 r1 q3
      obtain ⟨W2, l2, w2, r2, hl⟩ := putP_ok w1 r1 q3 h2
      exact ⟨W2, l1.trans l2, w2, r2, by rw [List.length_cons, List.length_cons, hl]⟩
    have asV : ∀ {W1 : Wd}, W.le W1 → WOk K γ W1 m H → RepT K γ W1 t v → RepRs K γ W1 H ts r → putV 0 i t ρ m = some (ρ1, m1) → ∃ W', W.le W' ∧ WOk K γ W' m' H ∧ RhoOk K γ W' ρ' (setsS σ (i :: is) (v :: r)) ∧ (v :: r).length = (i :: is).length := by
      intro W1 l1 w1 qt q3 h1
      obtain ⟨rfl, r1⟩ := putV_ok w1 (hr.mono l1) qt h1
      exact go l1 w1 r1 q3
    cases cb with
    | false =>
      simp only [Bool.false_eq_true, if_false] at h1
      cases fr with
      | false => exact asV (Wd.le_refl W) w q1 q3 h1
      | true =>
        cases t with
        | loc n => exact q1.elim
        | val d =>
          cases d <;> first | exact (show False from q1).elim | skip
          case lst ys =>
            obtain ⟨a, us, rfl, e1, r1, z1, f1, h1'⟩ := q1
            have l1 := Wd.le_frz (W := W) (p := a) (o := .lst us) (.inl z1)
            refine asV l1 (w.frz z1 e1 trivial (fun n xs _ => f1 n) h1') ?_ (q3.map (P := fun fr u => fr = true → u ≠ V.ref a) (fun t fr u k1 k2 => RepR.frz (m := m) z1 k1 k2) (other rfl)) h1
            simp only [RepT, Rep]
            exact ⟨a, us, rfl, .inl Wd.frz_at, r1.mono l1⟩
    | true =>
      simp only [if_true] at h1
      unfold putN at h1
      split at h1
      · rename_i hi
        have asV' : RepT K γ W t v → ρ1 = ρ.set i (some t) → m1 = m → ∃ W', W.le W' ∧ WOk K γ W' m' H ∧ RhoOk K γ W' ρ' (setsS σ (i :: is) (v :: r)) ∧ (v :: r).length = (i :: is).length := by
          intro qt e1 e2
          subst e1 e2
          exact go (Wd.le_refl W) w (hr.set qt) q3
        cases t with
        | loc k =>
          simp only [Option.some.injEq, Prod.mk.injEq] at h1
          cases fr with
          | false => exact asV' q1 h1.1.symm h1.2.symm
          | true => exact q1.elim
        | val d =>
          simp only at h1
          split at h1
          · rename_i ho
            simp only [Option.some.injEq, Prod.mk.injEq] at h1
            cases fr with
            | false => exact asV' q1 h1.1.symm h1.2.symm
            | true => cases d <;> first | exact (show False from q1).elim | cases ho
          · rename_i o ho
            cases fr with
            | false => simp at h1
            | true =>
              simp only [if_true, Option.some.injEq, Prod.mk.injEq] at h1
              obtain ⟨rfl, rfl⟩ := h1
              cases d <;> first | exact (show False from q1).elim | skip
              case lst ys =>
                simp only [obOf, Option.some.injEq] at ho
                subst ho
                obtain ⟨a, us, rfl, e1, r1, z1, f1, h1'⟩ := q1
                refine go (Wd.le_cell w (a := a)) (w.newCell e1 r1 z1 f1 h1') ((hr.mono (Wd.le_cell w)).set (t := .loc m.length) ⟨a, rfl, by simp [Wd.cell]⟩) ?_
                exact q3.map (P := fun fr u => fr = true → u ≠ V.ref a) (fun t fr u k1 k2 => RepR.cell w k1 k2) (other rfl)
      · cases h1
  | [], _ :: _, _, _, _, _, _, _, _, _, _, _, _, _, h => by simp [putP] at h
  | [], [], _ :: _, _, _, _, _, _, _, _, _, _, _, _, h => by simp [putP] at h
  | _ :: _, [], _, _, _, _, _, _, _, _, _, _, _, _, h => by simp [putP] at h
  | _ :: _, _ :: _, [], _, _, _, _, _, _, _, _, _, _, _, h => by simp [putP] at h
end
theorem gNames_ok : ∀ {is : List Nat} {vs : List V} {σ : L2.St} {H : Hp} {Q : L2.St → Hp → Prop}, vs.length = is.length → Q (setsS σ is vs) H → gNames is vs σ H Q
  | [], [], _, _, _, _, q => ⟨rfl, q⟩
  | [], _ :: _, _, _, _, h, _ => by simp at h
  | _ :: _, [], _, _, _, h, _ => by simp at h
  | i :: is, v :: vs, σ, H, Q, h, q => ⟨v, vs, rfl, gNames_ok (by simpa using h) q⟩
theorem setsS_snoc : ∀ {is : List Nat} {vs : List V} {σ : L2.St} {i : Nat} {v : V}, vs.length = is.length → setsS σ (is ++ [i]) (vs ++ [v]) = (setsS σ is vs).set i (some v)
  | [], [], _, _, _, _ => rfl
  | [], _ :: _, _, _, _, h => by simp at h
  | _ :: _, [], _, _, _, h => by simp at h
  | j :: is, u :: vs, σ, i, v, h => setsS_snoc (σ := σ.set j (some u)) (by simpa using h)
theorem setsS_set : ∀ {is : List Nat} {vs : List V} {σ : L2.St} {i : Nat} {v : V}, i ∉ is → setsS (σ.set i (some v)) is vs = (setsS σ is vs).set i (some v)
  | [], vs, _, _, _, _ => by cases vs <;> rfl
  | _ :: _, [], _, _, _, _ => rfl
  | j :: is, u :: vs, σ, i, v, h => by
    have hj : i ≠ j := fun e => h (by rw [e]; exact List.mem_cons_self)
    show setsS ((σ.set i (some v)).set j (some u)) is vs = (setsS (σ.set j (some u)) is vs).set i (some v)
    rw [List.set_comm _ _ hj, setsS_set fun q => h (List.mem_cons_of_mem _ q)]
theorem setsS_rev : ∀ {is : List Nat} {vs : List V} {σ : L2.St}, is.Nodup → vs.length = is.length → setsS σ is.reverse vs.reverse = setsS σ is vs
  | [], [], _, _, _ => rfl
  | [], _ :: _, _, _, h => by simp at h
  | _ :: _, [], _, _, h => by simp at h
  | i :: is, v :: vs, σ, nd, h => by
    have nd' := List.nodup_cons.mp nd
    have hl : vs.length = is.length := by simpa using h
    rw [List.reverse_cons, List.reverse_cons, setsS_snoc (by simpa using hl), setsS_rev nd'.2 hl]
    exact (setsS_set nd'.1).symm
/-- names with their slots, all of them plain -/
def Plains (X : L2.Cx) (l : List (Str × Nat)) : Prop := ∀ p ∈ l, X.N[p.2]? = some p.1 ∧ X.env.scope.names.lookup p.1 = some .local
section
variable {X : L2.Cx} {γ : Nm} {c : Cz} {pos tp vp : Pos} {E : Value → Shared → Prop}
theorem stores_ok (hN : X.N.Nodup) : ∀ {l : List (Str × Nat)} {pins : List (Addr × Obj)} {vs : List V} {us : List Value} {s : Shared} {σ : L2.St} {H : Hp} {Q : Unit → Shared → Prop}, Plains X l → L2.Inv X pins σ H s → Vals vs us → vs.length = l.length →
    (∀ s', L2.Inv X pins (setsS σ (l.map (·.2)) vs) H s' → Q () s') → wpAny (model X.prog X.w) X.A (assignInOrder (l.map fun p => fun v => bindName X.env p.1 v) us) Q E s
  | [], _, vs, us, s, σ, H, Q, hp, I, r, hl, q => by
    have : vs = [] := List.eq_nil_of_length_eq_zero hl
    subst this
    cases r
    exact assignInOrder_nil (q s I)
  | p :: l, pins, vs, us, s, σ, H, Q, hp, I, r, hl, q => by
    cases r with
    | nil => simp at hl
    | cons r rr =>
      obtain ⟨h1, h2⟩ := hp p List.mem_cons_self
      refine assignInOrder_cons (wpAny_bindName (store_ok I hN h1 (.inl h2) r (fun s2 I2 => ?_) (.inr h2)))
      exact stores_ok hN (fun p hm => hp p (List.mem_cons_of_mem _ hm)) I2 rr (by simpa using hl) q
def tParS (is : List Nat) (t : TA) : TS := fun D σ H => t σ H fun vs H1 => vs.length = is.length ∧ D.nx (setsS σ is vs) H1
theorem pair_eval {es : List Expr} {k2 : Nat} {t : TA} {pins : List (Addr × Obj)} {σ : L2.St} {H : Hp} {s : Shared} {n : Nat} {Q : List V → Hp → Prop} {R : Value → Shared → Prop} (ha : PA X es t) (I : L2.Inv X pins σ H s) (h : t σ H Q) (hn : ∀ vs H, Q vs H → vs.length = n) (hz : n ≤ sizeLine)
    (q : ∀ (vs : List V) (us : List Value) (H1 : Hp) (s1 : Shared), L2.Inv X pins σ H1 { s1 with heap := s1.heap.push { cls := .type "tuple", data := .seq us.toArray } } → Vals vs us → Q vs H1 → R (.ref s1.heap.objs.size) { s1 with heap := s1.heap.push { cls := .type "tuple", data := .seq us.toArray } }) :
    wpAny (model X.prog X.w) X.A (eval (.Tuple es k2 vp) X.env) R X.xe s := by
  refine Tuple_ (thn (ha.run _ pins s σ H _ I h) fun us s1 ⟨vs, H1, I1, r1, q1⟩ => ?_)
  refine wpAny_newObj_type ?_ (by show us.toArray.size ≤ sizeLine; rw [List.size_toArray, ← r1.length, hn vs H1 q1]; exact hz)
  exact q vs us H1 s1 (I1.kept (t' := s1.toks) fun b o e => Heap.get?_push_of_some _ e) r1 q1
/-- a, b, .. = x, y, .. -/
theorem ps_parN {tes es : List Expr} {is : List Nat} {k k2 : Nat} {t : TA} (hc : X.calm = true) (hN : X.N.Nodup) (hz : is.length ≤ sizeLine) (nm : Names X tes is) (ha : PA X es t)
    (hs : swapsWithSole [.Tuple tes k tp] (.Tuple es k2 vp) pos.line X.env = pure false) (hw : swappedStores [.Tuple tes k tp] (.Tuple es k2 vp) X.env = pure none) :
    PS X (.Assign [.Tuple tes k tp] (.Tuple es k2 vp) pos) (tParS is t) := by
  refine ⟨fun pins s σ H D I h => ?_⟩
  refine wpAny_Assign_stores (pair_eval (n := is.length) (Q := fun vs H1 => vs.length = is.length ∧ D.nx (setsS σ is vs) H1) ha I h (fun vs H q => q.1) hz fun vs us H1 s1 I2 r1 q1 => ?_) hs hw
  obtain ⟨p1, p2, p3⟩ := nm.pgs hN
  show wpAny _ _ (assign (.Tuple tes k tp) X.env (.ref s1.heap.objs.size)) _ _ _
  refine assign_Tuple_tuple (items := us.toArray) (I2.ok.hd hc) (IsTup.new s1.heap _) (by rw [p2, List.size_toArray, ← r1.length, q1.1]) p3 fun h' hx => ?_
  have I3 := I2.kept (h' := h') (t' := s1.toks) fun b o e => hx b o (Nat.ne_of_lt (Heap.lt_size e)) e
  exact p1.run pins _ σ H1 vs us D.nx I3 (by simpa using r1) (gNames_ok q1.1 q1.2)
theorem ps_parS {tes es : List Expr} {l : List (Str × Nat)} {is : List Nat} {ns : List Str} {k k2 : Nat} {t : TA} (hc : X.calm = true) (hN : X.N.Nodup) (hz : l.length ≤ sizeLine) (his : l.map Prod.snd = is) (hns : l.map Prod.fst = ns) (nd : is.Nodup) (pl : Plains X l) (ha : PA X es t)
    (hs : swapsWithSole [.Tuple tes k tp] (.Tuple es k2 vp) pos.line X.env = pure false) (hw : swappedStores [.Tuple tes k tp] (.Tuple es k2 vp) X.env = pure (some ns)) :
    PS X (.Assign [.Tuple tes k tp] (.Tuple es k2 vp) pos) (tParS is t) := by
  refine ⟨fun pins s σ H D I h => ?_⟩
  rw [exec_Assign_arm]
  refine wpAny_bind (wpAny_standAt ?_)
  rw [hs]
  refine wpAny_bind (wpAny_pure ?_)
  rw [if_neg (by decide)]
  have hl0 : is.length = l.length := by rw [← his, List.length_map]
  refine wpAny_bind (pair_eval (n := l.length) (Q := fun vs H1 => vs.length = is.length ∧ D.nx (setsS σ is vs) H1) ha I h (fun vs H q => by rw [q.1, hl0]) hz fun vs us H1 s1 I2 r1 q1 => ?_)
  rw [hw]
  refine wpAny_bind (wpAny_pure ?_)
  have hl : us.toArray.size = ns.length := by rw [List.size_toArray, ← r1.length, q1.1, ← his, ← hns, List.length_map, List.length_map]
  show wpAny (model X.prog X.w) X.A (do rule "assign.swapped-stores"; let items ← unpackItems (.ref s1.heap.objs.size) ns.length none; assignInOrder (ns.reverse.map fun n => bindName X.env n) items.reverse; pure Flow.next) _ _ _
  rw [← hl]
  refine wpAny_bind (wpAny_rule (wpAny_bind (unpackItems_tuple (items := us.toArray) (I.ok.hd hc) (IsTup.new s1.heap _) fun h' hx' => ?_)))
  have I3 := I2.kept (h' := h') (t' := s1.toks) fun b o e => hx' b o (Nat.ne_of_lt (Heap.lt_size e)) e
  have e1 : (ns.reverse.map fun n => bindName X.env n) = l.reverse.map fun p => fun v => bindName X.env p.1 v := by
    rw [← hns, ← List.map_reverse, List.map_map]; rfl
  refine wpAny_bind ?_
  rw [e1]
  refine stores_ok hN (fun p hp => pl p (by simpa using hp)) I3 (vs := vs.reverse) (by simpa using r1.reverse) (by rw [List.length_reverse, List.length_reverse, q1.1, hl0]) fun s' I4 => wpAny_pure ?_
  have e2 : (l.reverse.map fun p => p.2) = is.reverse := by rw [← his, List.map_reverse]
  rw [e2, setsS_rev nd q1.1] at I4
  exact ⟨_, H1, I4, q1.2⟩
theorem tS_par {is : List Nat} {cs : List Bool} {es : List PY.E} {n : Nat} {Wx : WX} {E : Ends} {σ : L2.St} {H : Hp} {K : PySem.W.Frag} (h : tS K γ c n (.par is cs es) Wx E σ H) : tParS is (tEF K γ c es Wx) E σ H := by
  obtain ⟨W, ρ, m, r, hW, hr, h, out⟩ := h
  simp only [exec] at h
  cases he : evF c es ρ m with
  | none => rw [he] at h; cases h
  | some r0 =>
    rw [he] at h
    refine ⟨W, ρ, m, r0, hW, hr, he, ?_⟩
    cases r0 with
    | ex e m1 =>
      have h' : some (RS.ex e ρ m1) = some r := h
      cases h'
      exact fun cls da H' W' l w q => out cls da σ H' W' (l.leS n) w (hr.mono l) q
    | ok ts m1 =>
      intro vs H' W' l w q
      simp only [nxt, Option.map_eq_some_iff] at h
      obtain ⟨⟨ρ', m'⟩, hp, rfl⟩ := h
      obtain ⟨W2, l2, w2, r2, hl⟩ := putP_ok w (hr.mono l) q hp
      exact ⟨hl, out _ H' W2 ((l.trans l2).leS n) w2 r2⟩
theorem s_parN {tes xs : List Expr} {is : List Nat} {cs : List Bool} {es : List PY.E} {k k2 : Nat} (hc : X.calm = true) (hN : X.N.Nodup) (hz : is.length ≤ sizeLine) (nm : Names X tes is) (ha : SF X γ c xs es)
    (hs : swapsWithSole [.Tuple tes k tp] (.Tuple xs k2 vp) pos.line X.env = pure false) (hw : swappedStores [.Tuple tes k tp] (.Tuple xs k2 vp) X.env = pure none) :
    SS X γ c (.Assign [.Tuple tes k tp] (.Tuple xs k2 vp) pos) (.par is cs es) := fun Wx tk n =>
  (ps_parN hc hN hz nm (ha Wx tk) hs hw).weak fun E σ H h => tS_par h
theorem s_parS {tes xs : List Expr} {l : List (Str × Nat)} {is : List Nat} {ns : List Str} {cs : List Bool} {es : List PY.E} {k k2 : Nat} (hc : X.calm = true) (hN : X.N.Nodup) (hz : l.length ≤ sizeLine) (his : l.map Prod.snd = is) (hns : l.map Prod.fst = ns) (nd : is.Nodup) (pl : Plains X l) (ha : SF X γ c xs es)
    (hs : swapsWithSole [.Tuple tes k tp] (.Tuple xs k2 vp) pos.line X.env = pure false) (hw : swappedStores [.Tuple tes k tp] (.Tuple xs k2 vp) X.env = pure (some ns)) :
    SS X γ c (.Assign [.Tuple tes k tp] (.Tuple xs k2 vp) pos) (.par is cs es) := fun Wx tk n =>
  (ps_parS hc hN hz his hns nd pl (ha Wx tk) hs hw).weak fun E σ H h => tS_par h
end
end PY

set_option Elab.async false
set_option linter.all false
set_option maxRecDepth 100000
/-! PyQ -/
namespace PY
open PySem PySem.Spec PyProof.Rows L2

section
variable {P : Program} {w : World} {K : PySem.W.Frag} {mg : Str → Option Value} {base : Heap} {γ : Nm}
/-- fn_of of the library, where no guard stands -/
theorem fn_g {k : Nat} {f : Addr} {name qual : Str} {params : Arguments} {body : List Stmt} {scope : Scope} {dV kV doc pm cdv ct oc : Value} {an od : Option Addr} {osl : Array (Option Value)} {N ps : List Str} {sp : Sp}
    (at_ : K.lookup f = some ⟨oc, od, .func (PySem.W.fnOf name qual params body scope dV kV doc pm an cdv ct), osl⟩) (code : PySem.W.codeIn K cdv qual = true) (fs : FnScope N ps scope) (len : ∀ vs H Q E, sp vs H Q E → vs.length = ps.length)
    (bd : ∀ (A : Around) (outer : List Env) (s : Shared) (H : Hp) (vs : List V) (Q : VK) (E : XK), Room k (A.deeper (envOfC qual scope s.heap.objs.size f cdv)) → A.guards = some [] → sp vs H Q E →
      ∃ t, PSs (cxOf (L2.CX P w) P w K mg base N qual scope f cdv A outer s H E) body t ∧ t { nx := fun _ H' => Q .non H', rt := Q } (start N vs) H) :
    FnG P w K mg base (k + 1) f (PySem.W.fnOf name qual params body scope dV kV doc pm an cdv ct) ps sp := by
  constructor
  · exact len
  intro A outer s H args us vs Q E room gs env0 binds rel promise
  have same : ∀ b o, base.get? b = some o → s.heap.get? b = some o := fun b o z => (env0.bs b o z).1
  have inK := env0.mod.kin.keeps same
  have nolim : s.heap.NoLimit := env0.mod.nolimit.keeps same
  refine codeAny_call_function room.depth (inK _ _ at_) rfl fs.co fs.gen rfl (PySem.W.codeRec_of inK code) (binds _ _ _ _ ?_)
  refine wpAny_newFunctionEnv_cells fs.kind (fun y hy => ?_) fun env he s1 x => ?_
  · have hm : y.1 ∈ ps := (List.of_mem_zip (show (y.1, y.2) ∈ ps.zip us from hy)).1
    exact (fs.par y.1 hm).imp_right fun q => ⟨q, PySem.W.cellsFrom_some _ _ _ (.inl q)⟩
  subst he
  refine ⟨nolim.keeps x.toInCall.keep, codeAny_func ?_⟩
  obtain ⟨t, runs, wish⟩ := bd A outer s H vs Q E (room.deeper _) gs promise
  have J := inv_start (CX := L2.CX P w) (mg := mg) (E := E) (N := N) fs room.hd env0 (len _ _ _ _ promise) rel x
  refine wpAny_mono (runs.run [] s1 (start N vs) H _ J wish) (fun fl s' hs => ?_) fun e s' hs => hs
  cases fl with
  | brk => exact hs.elim fun _ ⟨_, _, q⟩ => q.elim
  | cont => exact hs.elim fun _ ⟨_, _, q⟩ => q.elim
  | ret u => exact hs.elim fun v ⟨_, H', J', rv, q⟩ => ⟨v, H', J'.os, J'.bare, J'.base, J'.hok, rv, q⟩
  | next => exact hs.elim fun _ ⟨H', J', q⟩ => ⟨.non, H', J'.os, J'.bare, J'.base, J'.hok, rfl, q⟩
/-- the first n cells of a world -/
def Wd.cut (W : Wd) (n : Nat) : Wd := ⟨W.z, fun j => if j < n then W.f j else none, W.h⟩
theorem WOk.take {W : Wd} {m : Mu} {H : Hp} (w : WOk K γ W m H) (n : Nat) : WOk K γ (W.cut n) (m.take n) H := by
  refine ⟨w.z, w.k, fun j o e => ?_, fun j j' a e1 e2 => ?_, fun j a e => ?_, fun a o e => ?_⟩
  · have hj : j < n := by
      rcases Nat.lt_or_ge j n with h | h
      · exact h
      · rw [List.getElem?_eq_none (by rw [List.length_take]; omega)] at e; cases e
    rw [List.getElem?_take_of_lt hj] at e
    obtain ⟨a, f, ob⟩ := w.c j o e
    exact ⟨a, by simp [Wd.cut, hj, f], ob.zf rfl⟩
  · simp only [Wd.cut] at e1 e2
    split at e1 <;> split at e2 <;> first | exact w.inj j j' a e1 e2 | cases e1 | cases e2
  · simp only [Wd.cut] at e
    split at e
    · rename_i hj
      rw [List.length_take]
      have := w.len j a e
      omega
    · cases e
  · obtain ⟨x1, x2, x3⟩ := w.hh a o e
    refine ⟨x1, x2, fun j e2 => ?_⟩
    simp only [Wd.cut] at e2
    split at e2
    · exact x3 j e2
    · cases e2
theorem Wd.le_cut {W W' : Wd} {m : Mu} {H : Hp} (w : WOk K γ W m H) (l : W.leS m.length W') : W.le (W'.cut m.length) := ⟨l.1, fun j a e => by
  have := w.len j a e
  simp only [Wd.cut, this, if_true]
  exact l.2 j a this e, l.3⟩
theorem rho_start {W : Wd} {N : List Str} : ∀ {ts : List T} {vs : List V}, RepTs K γ W ts vs → RhoOk K γ W (ts.map some ++ List.replicate (N.length - ts.length) none) (start N vs) := fun {ts vs} q => by
  refine ⟨?_, fun i t e => ?_⟩
  · rw [L2.start, List.length_append, List.length_append, List.length_map, List.length_map, List.length_replicate, List.length_replicate, q.length]
  · rcases Nat.lt_or_ge i ts.length with h | h
    · rw [List.getElem?_append_left (by simpa using h), List.getElem?_map] at e
      cases ht : ts[i]? with
      | none => rw [ht] at e; cases e
      | some t' =>
        rw [ht] at e
        cases e
        obtain ⟨v, e2, r⟩ := q.pick ht
        exact ⟨v, by rw [L2.start, List.getElem?_append_left (by rw [List.length_map, q.length]; exact h), List.getElem?_map, e2]; rfl, r⟩
    · rw [List.getElem?_append_right (by simpa using h), List.getElem?_replicate] at e
      split at e <;> cases e
/-- where a body ends -/
theorem fin_out {W : Wd} {m : Mu} {H : Hp} {x : Option RS} {rs : RS} {r : R} {Q : VK} {E : XK} (w : WOk K γ W m H) (hx : x = some rs) (h : fin m.length x = some r) (out : OutE K γ W (fun cls d _ H' => E cls d H') [] r Q) :
    OutS K γ m.length W (fun cls d _ H' => E cls d H') rs { nx := fun _ H' => Q .non H', rt := Q } := by
  subst hx
  cases rs with
  | nx ρ m' =>
    simp only [fin, Option.some.injEq] at h
    subst h
    exact fun σ' H' W' l w' _ => out .non H' _ (Wd.le_cut w l) (w'.take _) (by simp [RepR, RepT, Rep])
  | bk ρ m' => cases h
  | ex e ρ m' =>
    simp only [fin, Option.some.injEq] at h
    subst h
    intro cls da σ' H' W' l w' _ q
    obtain ⟨c1, d1, C, a1, v1, x1, x2, x3, x4, x5, x6⟩ := q
    exact out cls da H' _ (Wd.le_cut w l) (w'.take _) ⟨c1, d1, C, a1, v1, x1, x2, x3, x4, x5, x6.zq rfl⟩
  | rt t fr m' =>
    intro v H' W' l w' q
    have lc := Wd.le_cut w l
    have wc := w'.take m.length
    cases t with
    | val d =>
      simp only [fin, Option.some.injEq] at h
      subst h
      refine out v H' _ lc wc ?_
      cases fr with
      | false => exact Rep.zq q rfl
      | true =>
        cases d <;> first | exact (show False from q).elim | skip
        case lst xs =>
          obtain ⟨a, vs, e1, e2, r1, z, f, hn⟩ := q
          refine ⟨a, vs, e1, e2, r1.zq rfl, z, fun j e => ?_, hn⟩
          simp only [Wd.cut] at e
          split at e
          · exact f j e
          · cases e
    | loc j =>
      have q' : RepT K γ W' (.loc j) v := by
        cases fr with
        | false => exact q
        | true => exact q.elim
      obtain ⟨a, rfl, f⟩ := q'
      simp only [fin] at h
      split at h
      · rename_i hj
        cases h
        exact out _ H' _ lc wc ⟨a, rfl, by simp [Wd.cut, hj, f]⟩
      · rename_i hj
        split at h
        · rename_i d hm
          cases h
          obtain ⟨a', f2, ob⟩ := w'.c j _ hm
          rw [f] at f2; cases f2
          exact out _ H' _ lc wc (Rep.zq ob.1 rfl)
        · rename_i o hno hm
          cases h
          obtain ⟨a', f2, ob⟩ := w'.c j _ hm
          rw [f] at f2; cases f2
          cases o with
          | dic _ _ => exact (show False from ob).elim
          | st _ => exact (show False from ob).elim
          | frz d => exact absurd rfl (hno d)
          | lst xs =>
            obtain ⟨⟨vs, e, r1⟩, z⟩ := ob
            refine out _ H' _ lc wc ⟨a, vs, rfl, e, r1.zq rfl, z, fun i e2 => ?_, ?_⟩
            · simp only [Wd.cut] at e2
              split at e2
              · have := w'.inj i j a e2 f
                omega
              · cases e2
            · cases hh : W'.h a with
              | none => exact hh
              | some o => exact absurd f ((w'.hh a o hh).2.2 j)
        · cases h
/-- a def of the module, as its body is told -/
structure DefE (K : PySem.W.Frag) (mg : Str → Option Value) (γ : Nm) (tell : List Str → List Str → Scope → List Stmt → List S) (f : Str) (fd : Fd) (a : Addr) (fdt : FuncData) : Prop where
  at_ : mg f = some (.ref a)
  kp : PySem.W.keepIn K (.ref a) = true
  pd : PlainDef fdt fd.ps
  fad : γ.fad f = some a
  ex : ∃ (oc : Value) (od : Option Addr) (name qual : Str) (params : Arguments) (body : List Stmt) (scope : Scope) (dV kV doc pm cdv ct : Value) (an : Option Addr) (osl : Array (Option Value)) (N : List Str),
    fdt = PySem.W.fnOf name qual params body scope dV kV doc pm an cdv ct ∧ K.lookup a = some ⟨oc, od, .func fdt, osl⟩ ∧ PySem.W.codeIn K cdv qual = true ∧ FnScope N fd.ps scope ∧ fd.nv = N.length ∧ ∃ cl, fd.body = tell N cl scope body
theorem DefE.lk {tell : List Str → List Str → Scope → List Stmt → List S} {f : Str} {fd : Fd} {a : Addr} {fdt : FuncData} (D : DefE K mg γ tell f fd a fdt) : ∃ oc od osl, K.lookup a = some ⟨oc, od, .func fdt, osl⟩ := by
  obtain ⟨oc, od, _, _, _, _, _, _, _, _, _, _, _, _, osl, _, _, lk, _⟩ := D.ex
  exact ⟨oc, od, osl, lk⟩
/-- the module: each def stands there, and its body is told rightly wherever it runs -/
theorem mod_ok {Pg : Pr} {tell : List Str → List Str → Scope → List Stmt → List S}
    (defs : ∀ f fd, Pg.fd f = some fd → ∃ a fdt, DefE K mg γ tell f fd a fdt)
    (sound : ∀ (X : L2.Cx) (k : Nat) (cl : List Str) (body : List Stmt), X.prog = P → X.w = w → X.K = K → X.mg = mg → X.base = base → (∀ x, X.fn x = true) → X.env.scope.kind = .function → PassesOwn (model X.prog X.w) X.A X.env X.xe → X.stack = X.env :: X.outer → X.env.frame = some X.env.locals → X.ex = [] → Ok X γ ⟨Pg.g, callN Pg k⟩ k → SSs X γ ⟨Pg.g, callN Pg k⟩ body (tell X.N cl X.env.scope body))
    (glob : ∀ (X : L2.Cx), X.K = K → X.mg = mg → ∀ n d, Pg.g.glob n = some d → GlobAt X γ n d) (fadi : ∀ f g a, γ.fad f = some a → γ.fad g = some a → f = g) (clsk : ∀ n ps, Pg.g.cls n = some ps → ∃ C, ClsAt P K mg γ Pg.g n ps C) :
    ∀ (k : Nat) (f : Str) (fd : Fd), Pg.fd f = some fd → ∃ a fdt, DefAt P w K mg base γ k (callN Pg k) f a fdt fd.ps
  | 0, f, fd, h => by
    obtain ⟨a, fdt, D⟩ := defs f fd h
    refine ⟨a, fdt, D.at_, D.kp, D.pd, D.fad, D.lk, fun vs H Q E q => ?_, fun A outer s H args us vs Q E _ _ _ _ _ q => ?_⟩
    · obtain ⟨W, ts, m, r, _, _, e, _⟩ := q
      simp [callN] at e
    · obtain ⟨W, ts, m, r, _, _, e, _⟩ := q
      simp [callN] at e
  | k + 1, f, fd, h => by
    obtain ⟨a, fdt, D⟩ := defs f fd h
    refine ⟨a, fdt, D.at_, D.kp, D.pd, D.fad, D.lk, ?_⟩
    obtain ⟨oc, od, name, qual, params, body, scope, dV, kV, doc, pm, cdv, ct, an, osl, N, rfl, lk, hcd, S, hnv, cl, hb⟩ := D.ex
    have open_ : ∀ {ts m r}, callN Pg (k + 1) f ts m = some r → ts.length = fd.ps.length ∧ fin m.length (execs ⟨Pg.g, callN Pg k⟩ m.length fd.body (ts.map some ++ List.replicate (fd.nv - fd.ps.length) none) m) = some r := by
      intro ts m r e
      simp only [callN, h] at e
      split at e
      · rename_i hl
        exact ⟨hl, e⟩
      · cases e
    refine fn_g lk hcd S (fun vs H Q E q => ?_) fun A outer s H vs Q E hr hg q => ?_
    · obtain ⟨W, ts, m, r, _, q, e, _⟩ := q
      rw [q.length, (open_ e).1]
    · obtain ⟨W, ts, m, r, hW, q, e, out⟩ := q
      obtain ⟨hl, e⟩ := open_ e
      let X := cxOf (L2.CX P w) P w K mg base N qual scope a cdv A outer s H E
      have ok : Ok X γ ⟨Pg.g, callN Pg k⟩ k := by
        refine ⟨hr, hg, rfl, S.nd, fun f' ps' e => ?_, glob X rfl rfl, fadi, clsk⟩
        have e' : (Pg.fd f').map (·.ps) = some ps' := e
        obtain ⟨fd', h', rfl⟩ := Option.map_eq_some_iff.mp e'
        exact mod_ok defs sound glob fadi clsk k f' fd' h'
      have run := sound X k cl body rfl rfl rfl rfl rfl (fun _ => rfl) S.kind (passes_of rfl) rfl rfl rfl ok (fun cls d _ H => E cls d H) (takes_of rfl rfl rfl rfl) m.length
      refine ⟨_, run, ?_⟩
      have e' : ∃ rs, execs ⟨Pg.g, callN Pg k⟩ m.length fd.body (ts.map some ++ List.replicate (fd.nv - fd.ps.length) none) m = some rs := by
        cases hx : execs ⟨Pg.g, callN Pg k⟩ m.length fd.body (ts.map some ++ List.replicate (fd.nv - fd.ps.length) none) m with
        | none => rw [hx] at e; cases e
        | some rs => exact ⟨rs, rfl⟩
      obtain ⟨rs, e'⟩ := e'
      refine ⟨W, _, m, rs, hW, ?_, by rw [hb] at e'; exact e', fin_out hW e' e out⟩
      have := rho_start (N := N) q
      rw [hnv, ← hl]
      exact this
end
end PY

set_option Elab.async false
set_option linter.all false
set_option maxRecDepth 100000
/-! PyV -/
namespace PY
open PySem PySem.Spec PyProof.Rows L2
section
variable {prog : Program} {w : World} {A : Around} {E : Value → Shared → Prop} {s : Shared}
theorem back_places (n : Nat) : Builtin.Slice.sliceAdjust none none (-1) (n : Int) = ((n : Int) - 1, -1) := by
  unfold Builtin.Slice.sliceAdjust
  first
  | rfl
  | simp
theorem back_count (n : Nat) : Builtin.Slice.slicePlaces ((n : Int) - 1) (-1) (-1) = n := by
  unfold Builtin.Slice.slicePlaces
  simp only [show ¬ ((-1 : Int) > 0) by decide, if_false]
  by_cases h : (n : Int) - 1 > -1
  · simp only [h, if_true]
    first
    | omega
    | (simp; done)
    | (simp; omega)
  · have e : n = 0 := by omega
    subst e
    first
    | rfl
    | simp
theorem back_pick (xs : Array Value) : ((List.range xs.size).filterMap fun (m : Nat) => xs[(((xs.size : Int) - 1) + (m : Int) * (-1)).toNat]?).toArray = xs.toList.reverse.toArray := by
  have e := PySem.W.krv_range xs.size
  have e2 : ((List.range xs.size).filterMap fun (m : Nat) => xs[(((xs.size : Int) - 1) + (m : Int) * (-1)).toNat]?) = ((List.range xs.size).map fun k => xs.size - 1 - k).filterMap fun k => xs[k]? := by
    rw [List.filterMap_map]
    refine fm_congr fun m hm => ?_
    have hm := List.mem_range.mp hm
    have : (((xs.size : Int) - 1) + (m : Int) * (-1)).toNat = xs.size - 1 - m := by omega
    rw [this]; rfl
  rw [e2, e, List.filterMap_reverse, PySem.W.krv_all]
theorem sliced_back {sl : Addr} {n : Nat} {t : Tok} {Q : Int × Int × Nat → Shared → Prop} (hs : s.heap.IsSliceOf sl .none .none (.int (-1) t)) (h : Q ((n : Int) - 1, -1, n) s) :
    wpAny (model prog w) A (Builtin.Slice.sliceApplied (.ref sl) (pure (n : Int))) Q E s := by
  obtain ⟨o, e1, e2, e3⟩ := id hs
  unfold Builtin.Slice.sliceApplied Builtin.Slice.sliceFields
  refine wpAny_bind (wpAny_bind (wpAny_field e1 e3 (x := .none) rfl (wpAny_bind (wpAny_field e1 e3 (x := .none) rfl (wpAny_bind (wpAny_field e1 e3 (x := .int (-1) t) rfl (wpAny_pure ?_)))))))
  refine wpAny_bind (HT.slicePart_ (.int (-1) t) ?_)
  refine (show wpAny (model prog w) A (if ((-1 : Int) == 0) = true then _ else _) _ _ s from ?_)
  rw [if_neg (by decide)]
  refine wpAny_bind (HT.slicePart_ .none (wpAny_bind (HT.slicePart_ .none (wpAny_bind (wpAny_pure ?_)))))
  refine (show wpAny (model prog w) A (match Builtin.Slice.sliceAdjust none none (-1) (n : Int) with | (lo, hi) => pure (lo, (-1 : Int), Builtin.Slice.slicePlaces lo hi (-1))) Q E s from ?_)
  rw [back_places]
  refine (show wpAny (model prog w) A (pure ((n : Int) - 1, (-1 : Int), Builtin.Slice.slicePlaces ((n : Int) - 1) (-1) (-1))) Q E s from ?_)
  rw [back_count]
  exact wpAny_pure h
theorem tuple_back {t sl : Addr} {xs : Array Value} {tk : Tok} {Q : Value → Shared → Prop} (ht : IsTup s.heap t xs) (hs : s.heap.IsSliceOf sl .none .none (.int (-1) tk)) (hz : xs.size ≤ sizeLine)
    (h : Q (.ref s.heap.objs.size) { s with heap := s.heap.push { cls := .type "tuple", data := .seq xs.toList.reverse.toArray } }) : wpAny (model prog w) A (getItem (.ref t) (.ref sl)) Q E s := by
  have small : sizeOk (.seq xs.toList.reverse.toArray) := by
    refine (show xs.toList.reverse.toArray.size ≤ sizeLine from ?_)
    rw [List.size_toArray, List.length_reverse, Array.length_toList]; exact hz
  obtain ⟨o, e1, e2, e3⟩ := id hs
  have isSl : s.TypeIs (.ref sl) "slice" := ⟨o, e1, e2⟩
  unfold getItem
  try with_reducible refine wpAny_holding ?_
  first | refine wpAny_bind (wpAny_pure ?_) | skip
  refine wpAny_bind (wpAny_sequenceKey ht.typeIs (by decide) ?_)
  refine wpAny_bind (wpAny_callSpecial?_slot (name := Str.ofString "__getitem__") ht.typeIs PyProof.Rows.slot_tuple_getitem (wpAny_call_entry PyProof.Rows.slot_tuple_getitem ht.typeIs entry_tuple_getitem ?_ (args_tuple_getitem _ _)))
  refine (show wpAny (model prog w) _ (Builtin.Tuple.tupleItemsOf (.ref t) >>= _) _ _ s from ?_)
  refine wpAny_bind (tupleItemsOf_ ht (wpAny_bind (wpAny_typeOf isSl ?_)))
  rw [if_pos (by decide)]
  refine wpAny_bind (sliced_back hs ?_)
  refine (show wpAny (model prog w) _ (if (((xs.size : Int) - 1 == 0) && ((-1 : Int) == 1) && (xs.size == xs.size)) = true then _ else _) _ _ s from ?_)
  rw [if_neg (by simp), back_pick]
  first
    | exact wpAny_bind (m := Builtin.Tuple.tupleExact _) (wpAny_newObj_type (wpAny_pure ⟨_, rfl, wpAny_pure h⟩) small)
    | exact wpAny_bind (wpAny_bind (m := Builtin.Tuple.tupleExact _) (wpAny_newObj_type (wpAny_pure (wpAny_pure ⟨_, rfl, wpAny_pure h⟩)) small))
    | exact wpAny_bind (wpAny_bind (m := Builtin.Tuple.tupleExact _) (wpAny_newObj_type (wpAny_pure ⟨_, rfl, wpAny_pure h⟩) small))
end
section
variable {X : L2.Cx} {γ : Nm} {c : Cz} {x : Expr} {a : PY.E} {k : Nat} {p1 p2 p3 pos : Pos}
theorem IsPart.int1 {v : Value} {i : Int} (h : IsPart v (some i)) : ∃ t, v = .int i t := by
  cases h with
  | int i t => exact ⟨t, rfl⟩
theorem IsPart.non {v : Value} (h : IsPart v none) : v = .none := by
  cases h with
  | none => rfl
def tBack (K : PySem.W.Frag) (γ : Nm) (t : TE) : TE := fun σ H Q => t σ H fun v H1 => ∃ W m d p, WOk K γ W m H1 ∧ RepN K γ W H1 d v ∧ revD d = some p ∧ Get K γ W m p Q
theorem pe_back {t : TE} (hx : PE X x t) : PE X (.Subscript x (.Slice none none (some (.UnaryOp .USub (.Constant (.int 1) k p1) p2)) p3) pos) (tBack X.K γ t) := by
  refine ⟨fun pins s σ H Q I h => Subscript_ (thn (hx.run pins s σ H _ I h) fun v s1 ⟨u, H1, I1, r1, W, m, d, p, hW, rd, hp, q⟩ => ?_)⟩
  have part : PO X (some (.UnaryOp .USub (.Constant (.int 1) k p1) p2)) (tPart (tUn (rU fun i => .int (-i)) (tC (.int 1)))) := po_some (pe_un un_neg pe_int)
  refine wpAny_Slice (thn (po_none.run pins s1 σ H1 (fun o H2 => o = none ∧ H2 = H1) I1 ⟨rfl, rfl⟩) fun vl s2 ⟨l, H2, I2, pl, e1, e2⟩ => ?_)
  subst e1 e2
  refine thn (po_none.run pins s2 σ H2 (fun o H3 => o = none ∧ H3 = H2) I2 ⟨rfl, rfl⟩) fun vu s3 ⟨l3, H3, I3, pu, e1, e2⟩ => ?_
  subst e1 e2
  refine thn (part.run pins s3 σ H3 (fun o H4 => o = some (-1) ∧ H4 = H3) I3 ⟨1, rfl, -1, rfl, rfl, rfl⟩) fun vs s4 ⟨l4, H4, I4, ps, e1, e2⟩ => ?_
  subst e1 e2
  obtain rfl := IsPart.non pl
  obtain rfl := IsPart.non pu
  obtain ⟨t4, rfl⟩ := IsPart.int1 ps
  generalize hs5 : ({ s4 with heap := s4.heap.push { cls := .type "slice", data := .fields #[.none, .none, .int (-1) t4] } } : Shared) = s5
  have I5 : L2.Inv X pins σ H4 s5 := by
    rw [← hs5]
    exact I4.kept (t' := s4.toks) fun b ob q => Heap.get?_push_of_some _ q
  have isS : s5.heap.IsSliceOf s4.heap.objs.size .none .none (.int (-1) t4) := by
    rw [← hs5]
    exact Heap.IsSliceOf.new ..
  cases d <;> simp only [revD] at hp <;> first | (cases hp; done) | skip
  case tup ys =>
    cases hp
    obtain ⟨b, us, rfl, tt, rr⟩ := rd.tup
    cases r1
    obtain ⟨its, rv, ht, hz⟩ := I5.tuple (hW.sqT tt)
    refine (show wpAny (model X.prog X.w) X.A (subscriptTail x (.Slice none none (some (.UnaryOp .USub (.Constant (.int 1) k p1) p2)) p3) (.ref b) (.ref s4.heap.objs.size)) (EP X pins σ Q) X.xe s5 from ?_)
    refine tail_any (ops := [.ref b, .ref s4.heap.objs.size]) ht.typeIs (PyProof.Rows.slot_tuple_getitem.lookup) (tuple_back ht isS (by rw [List.size_toArray, ← rv.length]; exact hz) ?_) (by with_unfolding_all rfl)
    have fr : H4 s5.heap.objs.size = none := I5.hok.fresh (Nat.le_refl _)
    refine ⟨.ref _, _, I5.laid (t' := s5.toks) (o := .tup us.reverse) (fun b ob q => Heap.get?_push_of_some _ q) (Nat.le_refl _) ?_, rfl, q.tupN hW rr.reverse _ fr⟩
    exact ⟨by rw [List.length_reverse]; exact hz, _, rv.reverse, IsTup.new _ _⟩
  case lst ys =>
    cases hp
    obtain ⟨b, us, rfl, tt, rr⟩ := rd.lst
    cases r1
    obtain ⟨its, rv, ht, hz⟩ := I5.list (.inl tt)
    refine (show wpAny (model X.prog X.w) X.A (subscriptTail x (.Slice none none (some (.UnaryOp .USub (.Constant (.int 1) k p1) p2)) p3) (.ref b) (.ref s4.heap.objs.size)) (EP X pins σ Q) X.xe s5 from ?_)
    refine tail_any (ops := [.ref b, .ref s4.heap.objs.size]) ht.isList.typeIs (PySem.slot_list_getitem.lookup) ?_ (by with_unfolding_all rfl)
    refine wpAny_getItem_list_slice ht.isList isS .none .none (.int (-1) t4) (by decide) ?_ (by rw [List.size_toArray, ← rv.length]; exact hz)
    rw [PySem.W.krv_pick]
    have fr : H4 s5.heap.objs.size = none := I5.hok.fresh (Nat.le_refl _)
    refine ⟨.ref _, _, I5.laid (t' := s5.toks) (o := .lst us.reverse) (fun b ob q => Heap.get?_push_of_some _ q) (Nat.le_refl _) ?_, rfl, q.lstN hW rr.reverse _ fr⟩
    exact ⟨by rw [List.length_reverse]; exact hz, _, 0, rv.reverse, Heap.get?_push_size _ rfl⟩
theorem se_rev (ha : SE X γ c x a) : SE X γ c (.Subscript x (.Slice none none (some (.UnaryOp .USub (.Constant (.int 1) k p1) p2)) p3) pos) (.rev a) := fun Wx tk => by
  refine (pe_back (γ := γ) (ha Wx tk)).weak fun σ H Q ⟨W, ρ, m, r, hW, hr, h, out⟩ => ?_
  simp only [ev] at h
  refine tE_bnd hW hr h out fun u H1 W1 t m1 l1 w1 r1 q1 h out => ?_
  simp only [Option.bind_eq_some_iff] at h
  obtain ⟨d1, e1, h⟩ := h
  cases hp : revD d1 with
  | none => rw [hp] at h; cases h
  | some p =>
    rw [hp] at h
    exact ⟨W1, m1, d1, p, w1, w1.rd q1 e1, hp, giv_get h out⟩
end
end PY

set_option Elab.async false
set_option linter.all false
set_option maxRecDepth 100000
/-! PyTry -/
namespace PY
open PySem PySem.Spec PyProof.Rows L2
/-- what stood in the suite as a pinned error is tracked from now on -/
theorem inv_track {X : L2.Cx} {pins : List (Addr × Obj)} {σ : L2.St} {H : Hp} {s : Shared} {a C dd : Addr} {oe : Obj} (ok : X.Ok) (I : Inv (X.suite a ((a, oe) :: (X.pn ++ pins))) [] σ H s) (hc : oe.cls = .ref C) (hd : oe.dict = some dd) (hf : ∃ vs, oe.data = .fields vs)
    (n0 : X.s_0.heap.get? a = none) (np : ∀ p ∈ X.pn ++ pins, p.1 ≠ a) : Inv X pins σ (upd H a (.ext (ExcAt a C dd))) s := by
  obtain ⟨e1, e2, e3, e4, e5⟩ := I.pin (a, oe) (by simp)
  have ne : ∀ {b : Addr} {o : HO}, H b = some o → b ≠ a := fun {b o} q z => by rw [z] at q; rw [e2] at q; cases q
  have ne0 : ∀ {b : Addr} {o : Obj}, X.s_0.heap.get? b = some o → b ≠ a := fun {b o} q z => by rw [z, n0] at q; cases q
  have u := I.base
  refine ⟨ok, I.os, I.bare, ⟨u.keep, u.slot, fun b o q z w => ?_, u.there, fun b xs q => ?_, fun b o x q => ?_, fun b ps q => ?_⟩, I.loc, I.cell, ?_, fun x c q => ?_, fun p hp => ?_, fun b o q => ?_, I.len⟩
  · rw [upd_ne (ne0 q)]; exact u.free b o q z w
  · have z := u.tups b xs q
    rw [upd_ne (ne z)]; exact z
  · have z := u.frzs b o x q
    rw [upd_ne (ne z)]; exact z
  · obtain ⟨more, z⟩ := u.tbls b ps q
    exact ⟨more, by rw [upd_ne (ne z)]; exact z⟩
  · rw [upd_ne (Ne.symm e3)]; exact I.free
  · have hx : c ≠ a := fun z => by
      obtain ⟨w, o, g1, g2⟩ := I.cell x c q
      rw [z, e1] at g1; cases g1
      exact e5 _ g2
    rw [upd_ne hx]; exact I.freeC x c q
  · obtain ⟨g1, g2, g3, g4, g5⟩ := I.pin p (by
      rw [List.append_nil]
      exact List.mem_cons_of_mem _ hp)
    exact ⟨g1, by rw [upd_ne (np p hp)]; exact g2, g3, g4, g5⟩
  · by_cases hb : b = a
    · subst hb
      rw [upd_same] at q
      cases q
      exact ⟨⟨oe, e1, hc, hd, hf⟩, ⟨oe, e1⟩, fun h1 h2 ⟨o, g1, g2, g3, g4⟩ k => ⟨o, k o g1, g2, g3, g4⟩⟩
    · rw [upd_ne hb] at q
      exact (I.hok b o q).stay (fun c v _ z => z) (fun c z => by rw [upd_ne (ne z)]; exact z) fun c xs z => by rw [upd_ne (ne z)]; exact z
/-- what is wished of an error of the body: it is kept by the name of slot j -/
def wKp (K : PySem.W.Frag) (c : Value) (i j : Nat) (D : Ends) : WX := fun cls d σ H =>
  ∃ C dd, PySem.W.exmOne K cls c = some true ∧ cls = .ref C ∧ d = some dd ∧ ∀ a, H a = none → D.nx (((σ.set i (some (.ref a))).set j (some (.ref a))).set i none) (upd H a (.ext (ExcAt a C dd)))
section
variable {X : L2.Cx} {x n n2 : Str} {c : Value} {i j : Nat} {body : List Stmt} {np p2 p3 p4 pos pos' : Pos} {tb : WX → TS} 
/-- m = n in the suite -/
theorem ps_keep (hi : X.N[i]? = some n) (hj : X.N[j]? = some n2) (hN : X.N.Nodup) (hln : X.env.kindOf n = some .local) (hlj : X.env.kindOf n2 = some .local) (hk : X.env.scope.kind = .function) (hd : (n == ("__debug__" : Str)) = false ∧ (n == ("__classdict__" : Str)) = false) (a : Addr) (pn : List (Addr × Obj)) :
    PSs (X.suite a pn) [.Assign [.Name n2 p2] (.Name n p3) p4] (fun D σ H => ∃ v, σ[i]? = some (some v) ∧ D.nx (σ.set j (some v)) H) := by
  have pe := pe_var (X := X.suite a pn) (pos := p3) hi (.inl hln) hd.1 hd.2
  have pg := pg_name (X := X.suite a pn) (pos := p2) hN hj (.inl hlj) (.inr hlj)
  have sw : swapsWithSole [.Name n2 p2] (.Name n p3) p4.line (X.suite a pn).env = pure false := rfl
  refine (pss_one (ps_asg pe pg sw rfl)).weak fun D σ H ⟨v, h1, h2⟩ => ?_
  exact ⟨v, h1, h2⟩
/-- an error is caught and kept -/
theorem ps_try_k (stk : X.stack = X.env :: X.outer) (frm : X.env.frame = some X.env.locals) (hN : X.N.Nodup) (hi : X.N[i]? = some n) (hj : X.N[j]? = some n2) (hln : X.env.kindOf n = some .local) (hlj : X.env.kindOf n2 = some .local) (hk : X.env.scope.kind = .function) (hij : i ≠ j)
    (hd : (n == ("__debug__" : Str)) = false ∧ (n == ("__classdict__" : Str)) = false) (nmd : L2.Names X x c) (hex : X.ex = [])
    (bdy : ∀ (W : WX) (pn : List (Addr × Obj)) (xe : Value → Shared → Prop), Takes (X.tr pn xe) W → PassesOwn (model X.prog X.w) X.A X.env xe → PSs (X.tr pn xe) body (tb W)) :
    PS X (.Try body [.ExceptHandler (some (.Name x np)) (some n) [.Assign [.Name n2 p2] (.Name n p3) p4] pos'] [] [] pos) (fun D σ H => tb (wKp X.K c i j D) D σ H) := by
  refine ⟨fun pins s σ H D I h => ?_⟩
  have okX := I.ok
  have fr : X.A.frames = some (X.env :: X.outer) := by rw [okX.frames, stk]
  refine wpAny_Try_except (wpAny_mono ((bdy (wKp X.K c i j D) (X.pn ++ pins) _ ?caught PassesOwn.looking).run [] s σ H D (I.toTry _) h) ?fine fun _ _ z => z)
  case fine =>
    intro f s1 q
    cases f with
    | next =>
      obtain ⟨σ1, H1, J, w⟩ := q
      exact wpAny_execs_nil ⟨σ1, H1, J.ofTry okX, w⟩
    | ret u =>
      obtain ⟨v, σ1, H1, J, r, w⟩ := q
      exact ⟨v, σ1, H1, J.ofTry okX, r, w⟩
    | brk =>
      obtain ⟨σ1, H1, J, w⟩ := q
      exact ⟨σ1, H1, J.ofTry okX, w⟩
    | cont =>
      obtain ⟨σ1, H1, J, w⟩ := q
      exact ⟨σ1, H1, J.ofTry okX, w⟩
  case caught =>
    rintro u t ⟨a, B, sI, pn1, σ1, H1, cls, d, rfl, J0, hB, upS, sk, na, eos, bare, C, dd, hb, rfl, rfl, wish⟩
    have J : Inv X pins σ1 H1 sI := J0.ofTry okX
    have sk2 : Sky B (X.env :: X.outer) a (Zc (.ref C) (some dd)) X.env.locals t.heap := stk ▸ sk
    refine Sky.land Zc.steady fr frm sk2 fun g1 fg up1 => ?_
    have K1 : Inv X pins σ1 H1 { t with heap := g1 } := J.landed hB fg.1 (upS.trans up1) eos bare
    obtain ⟨o1, w1, there1, zc1, dat1⟩ := fg.there
    have offF : ∀ {o : Obj} {w : Array Value}, g1.get? a = some o → o.data = .fields w → a ∉ frs (X.env :: X.outer) := fun {o w} q1 q2 m => by
      obtain ⟨_, o', q3, nf⟩ := fg.2.2.1.mem m
      rw [q1] at q3; cases q3
      exact nf _ q2
    have nFr := offF there1 dat1
    have nL : a ≠ X.env.locals := fun z => nFr (List.mem_filterMap.mpr ⟨X.env, .head _, by rw [frm, z]⟩)
    have nF : a ∉ X.fs := fun m => by
      obtain ⟨e, me, q⟩ := List.mem_filterMap.mp m
      exact nFr (List.mem_filterMap.mpr ⟨e, .tail _ me, q⟩)
    -- the error is new
    have noB : B.get? a = none := fg.2.1
    have nI : sI.heap.get? a = none := by
      cases e : sI.heap.get? a with
      | none => rfl
      | some o =>
        have := hB a o e (by rw [show (X.tr (X.pn ++ pins) _).stack = X.stack from rfl, stk]; exact nFr)
        rw [noB] at this; cases this
    have n0 : X.s_0.heap.get? a = none := by
      cases e : X.s_0.heap.get? a with
      | none => rfl
      | some o =>
        obtain ⟨o', q⟩ := J.base.there a o e (by rw [hex]; simp)
        rw [nI] at q; cases q
    have nP : ∀ p ∈ X.pn ++ pins, p.1 ≠ a := fun p hp z => by
      have q := (J.pin p hp).1
      rw [z, nI] at q; cases q
    have S1 := K1.suite there1 dat1 na nL nF
    have LT : PySem.W.Looks (model X.prog X.w) g1 (typeOf (.ref a)) (.ref C) := fun A' Q' E' s' k q => wpAny_typeOf_ref (k _ _ there1) (by rw [zc1.1]; exact q)
    have LM := PySem.W.exm_one (M := model X.prog X.w) K1.kIn LT hb
    refine wpAny_handleBy_cons (codeAny_handlers_test ?_) (by rintro ⟨⟩)
    have name : ∀ {Q : Value → Shared → Prop} {E : Value → Shared → Prop}, Q c { t with heap := g1 } → wpAny (model X.prog X.w) (X.A.mark (some (.ref a))) (eval (.Name x np) X.env) Q E { t with heap := g1 } := fun {Q E} q => by
      obtain ⟨gl, dbg, at_ | ⟨at_, bt, nn⟩⟩ := nmd
      · exact ld_glob (X := X.suite a ((a, o1) :: (X.pn ++ pins))) S1 gl at_ q dbg
      · exact ld_blt (X := X.suite a ((a, o1) :: (X.pn ++ pins))) S1 gl at_ bt q nn dbg
    refine name (LM.here ?_)
    refine codeAny_handlers_suite_as (HandSPX.lands_againZ fg fun g2 fg2 up2 => ?_)
    have K2 : Inv X pins σ1 H1 { t with heap := g2 } := J.landed hB fg2.1 ((upS.trans up1).trans up2) eos bare
    obtain ⟨o2, w2, there2, zc2, dat2⟩ := fg2.there
    have S2 := K2.suite there2 dat2 na nL nF
    refine store_ok (X := X.suite a ((a, o2) :: (X.pn ++ pins))) (v := .ref a) S2 hN hi (.inl hln) rfl (fun s3 S3 => ?_) (.inr hln)
    have hlen : i < σ1.length := by
      rw [J.len]
      rcases Nat.lt_or_ge i X.N.length with z | z
      · exact z
      · rw [List.getElem?_eq_none z] at hi; cases hi
    refine wpAny_mono ((ps_keep (p2 := p2) (p3 := p3) (p4 := p4) hi hj hN hln hlj hk hd a ((a, o2) :: (X.pn ++ pins))).run [] s3 _ H1 { nx := fun σ' H' => σ' = (σ1.set i (some (.ref a))).set j (some (.ref a)) ∧ H' = H1, rt := fun _ _ => False, bk := fun _ _ => False, ct := fun _ _ => False } S3 ⟨.ref a, by simp [hlen], rfl, rfl⟩) ?_ fun _ _ z => z.elim
    intro f s4 q
    cases f with
    | next =>
      obtain ⟨σ4, H4, S4, rfl, rfl⟩ := q
      refine gone_ok (X := X.suite a ((a, o2) :: (X.pn ++ pins))) S4 hN hi hln fun s5 S5 => ?_
      exact ⟨_, _, inv_track okX S5 zc2.1 zc2.2 ⟨_, dat2⟩ n0 nP, wish a na⟩
    | ret u => obtain ⟨_, _, _, _, _, z⟩ := q; exact z.elim
    | brk => obtain ⟨_, _, _, z⟩ := q; exact z.elim
    | cont => obtain ⟨_, _, _, z⟩ := q; exact z.elim
end
end PY

set_option Elab.async false
set_option linter.all false
set_option maxRecDepth 100000
/-! PyX -/
namespace PY
open PySem PySem.Spec PyProof.Rows L2
theorem relO_we {v : V} {u : Value} (r : RelV v u) (f : Str) : RelO (List.lookup f [(("value" : Str), v)]) (if f = "value" then some u else none) := by
  by_cases h : f = "value"
  · subst h
    rw [if_pos rfl]
    have e : List.lookup ("value" : Str) [(("value" : Str), v)] = some v := by simp [List.lookup]
    rw [e]; exact r
  · rw [if_neg h]
    have h1 : (f == ("value" : Str)) = false := by simpa using h
    have e : List.lookup f [(("value" : Str), v)] = none := by simp [List.lookup, h1]
    rw [e]; trivial
section
variable {X : L2.Cx} {γ : Nm} {c : Cz} {k : Nat} {x : Expr} {a : PY.E} {nm : Str} {pl : List Str} {C : Addr} {p pos pos2 : Pos}
def tMkW (C : Addr) (t : TE) : L2.St → Hp → XK → Prop := fun σ H Q => tCons t tNil σ H fun vs H1 => ∃ v, vs = [v] ∧ ∀ d, H1 d = none → Q (.ref C) (some d) (upd H1 d (.xd [(("value" : Str), v)]))
theorem pmk_we {t : TE} (T : ClsAt X.prog X.K X.mg γ c.g nm pl C) (hr : Room k X.A) (hx : PE X x t) (hg : Gl X nm) (hdb : (nm == ("__debug__" : Str)) = false) (hs : starEach [x] X.env = (false, eval x X.env) :: starEach [] X.env) : PMk X (.Call (.Name nm p) [x] [] pos) (tMkW C t) := by
  obtain ⟨file0, D, fI, TK, hf⟩ := T.txt
  have W := TK.we
  intro pins s σ H Q I h
  refine wpAny_Call_Name_kw (ld_glob I hg T.at_ ?_ hdb)
  refine PySem.W.callWith_K (h₀ := X.base) I.ok.mod.kin TK.kp ?_ hs rfl
  refine thn ((pa_cons hx pa_nil hs).run pos pins s σ H (fun vs H1 => ∃ v, vs = [v] ∧ ∀ d, H1 d = none → Q (.ref C) (some d) (upd H1 d (.xd [(("value" : Str), v)]))) I h) fun us s1 ⟨vs, H1, I1, rv, v, ev, q⟩ => ?_
  subst ev
  obtain ⟨u, rfl, ru⟩ := Vals.one rv
  refine ⟨I1.kIn, ?_⟩
  obtain ⟨mb, b1, b2⟩ := I1.ok.mod.blt
  have lim := I1.nolimit
  have G := I1.ok.mod.glob.keeps I1.bk
  have Bn := b1.keeps I1.bk
  obtain ⟨hp, g, dr, tk, os⟩ := s1
  show wpAny _ _ (PySem.call (.ref C) [u]) _ _ _
  refine wpAny_call (we_made W hf T.top G T.sup Bn ((b2 _ (by decide)).trans (by decide +kernel)) I1.kIn lim (by have := hr.dp; omega) fun h' tk' e d M => ?_)
  show MkP X pins σ Q (.ref e) ⟨h', g, dr, tk', os⟩
  obtain ⟨oe, fv, hoe, hc, hd, hdat, h1⟩ := M.obj
  have hns := M.ns
  obtain ⟨G', g1, g2⟩ := restrict h' fun b => decide (b ≠ e)
  have gk : ∀ b, b ≠ e → G'.get? b = h'.get? b := fun b hb => g1 b (decide_eq_true hb)
  have ge : G'.get? e = none := g2 e (by simp)
  have old : ∀ b o, hp.get? b = some o → G'.get? b = some o := fun b o q => (gk b (Nat.ne_of_lt (Nat.lt_of_lt_of_le (Heap.lt_size q) M.new))).trans (M.keep b o q)
  have ob : ObjOk X.prog X.w (upd H1 d (.xd [(("value" : Str), v)])) G' d (.xd [(("value" : Str), v)]) := ⟨_, hns.at (fun o q => (gk d M.dne).trans q), fun f => relO_we ru f⟩
  have J : L2.Inv X pins σ (upd H1 d (.xd [(("value" : Str), v)])) ⟨G', g, dr, tk', os⟩ := I1.laid (t' := tk') old M.dbig ob
  refine ⟨e, oe, fv, ⟨G', g, dr, tk', os⟩, _, .ref C, some d, rfl, J, fun b o q => ?_, ge, hoe, ⟨hc, hd⟩, hdat, h1, ?_, rfl, I1.bare, raises_own TK.ex TK.ty, q d (I1.hok.fresh M.dbig)⟩
  · by_cases hb : b = e
    · have q' : G'.get? b = some o := q
      rw [hb, ge] at q'; cases q'
    · exact (gk b hb).symm.trans q
  · rw [upd_ne (Ne.symm M.dne)]
    exact I1.hok.fresh M.new
/-- raise C(e) -/
theorem s_rse (hc : X.calm = true) (T : ClsAt X.prog X.K X.mg γ c.g nm pl C) (hr : Room k X.A) (ha : SE X γ c x a) (hg : Gl X nm) (hdb : (nm == ("__debug__" : Str)) = false) (hs : starEach [x] X.env = (false, eval x X.env) :: starEach [] X.env) :
    SS X γ c (.Raise (some (.Call (.Name nm p) [x] [] pos)) none pos2) (.rse nm a) := fun Wx tk n => by
  refine (ps_raise (pos := pos2) hc tk (pmk_we (p := p) (pos := pos) T hr (ha Wx tk) hg hdb hs)).weak fun E σ H ⟨W, ρ, m, r, hW, hr, h, out⟩ => ?_
  simp only [exec] at h
  refine tE_S hW hr h out fun v H1 W1 t f m1 l w r1 q h out => ⟨v, rfl, fun d hd => ?_⟩
  obtain ⟨W2, l2, _, w2, q2⟩ := freeze w q
  simp only [Option.map_eq_some_iff] at h
  obtain ⟨⟨d0, m2⟩, ht, rfl⟩ := h
  obtain ⟨W3, l3, _, w3, q3⟩ := take_ok w2 q2 ht
  have hz := w3.notZ hd
  have w4 := (w3.new (o := .xd [(("value" : Str), v)]) hd).frz hz upd_same trivial (fun n _ _ => w3.notF hd n) (w3.notH hd)
  have l4 : W3.le (W3.frz d (.xd [(("value" : Str), v)])) := Wd.le_frz (.inl hz)
  exact out (.ref C) (some d) σ _ _ (((l2.trans l3).trans l4).leS n) w4 (((r1.mono l2).mono l3).mono l4) ⟨nm, d0, C, d, v, rfl, rfl, rfl, T.cad, Wd.frz_at, q3.mono l4⟩
end
end PY

set_option Elab.async false
set_option linter.all false
set_option maxRecDepth 100000
/-! PyY -/
namespace PY
open PySem PySem.Spec PyProof.Rows L2
section
variable {X : L2.Cx} {γ : Nm} {c : Cz} {k : Nat}
theorem inst_of {pins : List (Addr × Obj)} {σ : L2.St} {H : Hp} {s : Shared} {a C da : Addr} {v : V} (I : L2.Inv X pins σ H s) (h1 : H a = some (.ext (ExcAt a C da))) (h2 : H da = some (.xd [(("value" : Str), v)])) :
    ∃ oe od u, PySem.W.InstAt s.heap a oe C (some od) ∧ PySem.W.lookIn "value" od = some (some u) ∧ RelV v u := by
  obtain ⟨⟨oe, e1, e2, e3, vs, e4⟩, _, _⟩ := (show ObjOk X.prog X.w H s.heap a (.ext (ExcAt a C da)) from I.hok a _ h1)
  obtain ⟨mA, hns, hr⟩ := (show ObjOk X.prog X.w H s.heap da (.xd [(("value" : Str), v)]) from I.hok da _ h2)
  obtain ⟨od, ho, hl⟩ := lookIn_ns hns
  obtain ⟨u, hu, ru⟩ := RelO.some_of (v := v) (o := mA "value") (by
    have := hr "value"
    simpa [List.lookup] using this)
  exact ⟨oe, od, u, ⟨e1, e2, by unfold PySem.W.notCls; rw [e4] <;> rfl, by rw [e3]; exact ho⟩, by rw [hl, hu], ru⟩
/-- isinstance of an own class -/
def rIsc (K : PySem.W.Frag) : List V → Hp → VK → Prop := fun xs H Q => ∃ (x : V) (C2 : Addr) (b : Bool), xs = [x, .ref C2] ∧
  ((∃ t, TyX K H x t ∧ PySem.W.kitOne K t (.ref C2) = some b) ∨ (∃ a C da D fI f0 v, x = .ref a ∧ H a = some (.ext (ExcAt a C da)) ∧ H da = some (.xd [(("value" : Str), v)]) ∧ ClsK K C D fI f0 ∧ PySem.W.kitOne K (.ref C) (.ref C2) = some b)) ∧ Q (.bl b) H
theorem call_isc : CallR X (.builtin "isinstance") (rIsc X.K) := by
  intro pins s σ H xs us Q I r ⟨x, C2, b, ex, h, q⟩
  rcases h with ⟨t, ty, e⟩ | ⟨a, C, da, D, fI, f0, v, rfl, h1, h2, TK, e⟩
  · exact call_isi pins s σ H xs us Q I r ⟨x, .ref C2, t, .ref C2, b, ex, .own C2, ty, e, q⟩
  · subst ex
    obtain ⟨u1, u2, rfl, r1, r2⟩ := vals2 r
    obtain rfl : u1 = Value.ref a := r1
    obtain rfl : u2 = Value.ref C2 := r2
    obtain ⟨oe, od, u, J, _, _⟩ := inst_of I h1 h2
    have Z := PySem.W.kitx_exc (K := X.K) (x := a) (C := C) (ox := oe) (od := some od) TK.is TK.ga TK.gt TK.ex TK.ca TK.gn TK.tk TK.mo
    exact PySem.W.kia_one Z I.kIn J e (fun z => nomatch z) fun tk => ⟨.bl b, H, I.tok tk, rfl, q⟩
variable {x : Expr} {e : PY.E} {f tn : Str} {p p2 pos : Pos}
theorem se_isc (o : Ok X γ c k) (hg : Gl X f) (hm : X.mg f = none) (hv : bootBuiltins f = some (.builtin "isinstance")) (hn : f ≠ "__name__") (hdb : (f == ("__debug__" : Str)) = false)
    (hg2 : Gl X tn) (hdb2 : (tn == ("__debug__" : Str)) = false) (hc : (c.g.cls tn).isSome = true)
    (ha : SE X γ c x e) (hs : starEach [x, .Name tn p2] X.env = (false, eval x X.env) :: starEach [.Name tn p2] X.env) : SE X γ c (.Call (.Name f p) [x, .Name tn p2] [] pos) (.isc e tn) := fun Wx tk => by
  obtain ⟨ps2, hps⟩ := Option.isSome_iff_exists.mp hc
  obtain ⟨C2, T2⟩ := o.cls tn ps2 hps
  obtain ⟨f02, D2, fI2, TK2, _⟩ := T2.txt
  have pt : PE X (.Name tn p2) (fun _ H Q => Q (.ref C2) H) := ⟨fun pins s σ H Q I h => ld_glob I hg2 T2.at_ ⟨.ref C2, H, I, rfl, h⟩ hdb2⟩
  refine (pe_callB (p := p) (pos := pos) call_isc hg hm hv (pa_cons (ha Wx tk) (pa_cons pt pa_nil) hs) hn hdb hs).weak fun σ H Q ⟨W, ρ, m, r, hW, hr, h, out⟩ => ?_
  simp only [ev] at h
  refine tE_bnd hW hr h out fun v H1 W1 t1 m1 l1 w1 r1 q1 h out => ?_
  simp only [Option.bind_eq_some_iff] at h
  obtain ⟨d, e1, b, e2, h⟩ := h
  have rn := w1.rd q1 e1
  refine ⟨v, C2, b, rfl, ?_, (vl_get h out).bl w1⟩
  unfold iscD at e2
  rw [hps] at e2
  simp only at e2
  have plain : ∀ {a : String}, tyD d = some a → b = false → (∃ t, TyX X.K H1 v t ∧ PySem.W.kitOne X.K t (.ref C2) = some b) := fun {a} h1 h2 => by
    subst h2
    exact ⟨_, ty_ok w1 rn h1, TK2.no a (by rcases tyD_in h1 with rfl | rfl | rfl | rfl | rfl | rfl <;> simp)⟩
  cases d with
  | exc en v0 =>
    refine .inr ?_
    simp only [Option.map_eq_some_iff] at e2
    obtain ⟨ps, hp, rfl⟩ := e2
    obtain ⟨C, T⟩ := o.cls en ps hp
    obtain ⟨f0, D, fI, TK, _⟩ := T.txt
    have rn' : Rep X.K γ W1 (.exc en v0) v := rn
    simp only [Rep] at rn'
    obtain ⟨a, da, C', v', rfl, hcad, z1, z2, _⟩ := rn'
    rw [T.cad] at hcad; cases hcad
    exact ⟨a, C, da, D, fI, f0, v', rfl, w1.z _ _ z1, w1.z _ _ z2, TK, (T.rel tn ps2 C2 hps T2.at_).2⟩
  | dic _ _ => cases e2
  | st _ => cases e2
  | fn _ => cases e2
  | non => exact .inl (plain rfl (by simpa [tyD, eq_comm] using e2))
  | bl _ => exact .inl (plain rfl (by simpa [tyD, eq_comm] using e2))
  | int _ => exact .inl (plain rfl (by simpa [tyD, eq_comm] using e2))
  | str _ => exact .inl (plain rfl (by simpa [tyD, eq_comm] using e2))
  | tup _ => exact .inl (plain rfl (by simpa [tyD, eq_comm] using e2))
  | lst _ => exact .inl (plain rfl (by simpa [tyD, eq_comm] using e2))
/-- e.value, e an error -/
theorem se_fld (o : Ok X γ c k) (cad : ∀ n C, γ.cad n = some C → ∃ ps, c.g.cls n = some ps) (ha : SE X γ c x e) (hb : attributeBase x "value" X.env (eval x X.env) = eval x X.env) : SE X γ c (.Attribute x "value" pos) (.fld e) := fun Wx tk => by
  have P : PE X (.Attribute x "value" pos) (fun σ H Q => tE X.K γ c e Wx σ H fun u H1 => ∃ a C da D fI f0 v, u = .ref a ∧ H1 a = some (.ext (ExcAt a C da)) ∧ H1 da = some (.xd [(("value" : Str), v)]) ∧ ClsK X.K C D fI f0 ∧ Q v H1) := by
    refine ⟨fun pins s σ H Q I h => ?_⟩
    refine attr_of hb (thn ((ha Wx tk).run pins s σ H _ I h) fun u s1 ⟨w, H1, I1, rw_, a, C, da, D, fI, f0, v, ew, h1, h2, TK, q⟩ => ?_)
    subst ew
    obtain rfl : u = Value.ref a := rw_
    obtain ⟨oe, od, u, J, lk, ru⟩ := inst_of I1 h1 h2
    exact HandSPX.exc_get I1.kIn J TK.ga TK.gt TK.ex (PySem.W.findObj_own TK.hd TK.we.no rfl lk) (handed_of ru) ⟨v, H1, I1.tok _, ru, q⟩
  refine P.weak fun σ H Q ⟨W, ρ, m, r, hW, hr, h, out⟩ => ?_
  simp only [ev] at h
  refine tE_bnd hW hr h out fun v H1 W1 t1 m1 l1 w1 r1 q1 h out => ?_
  simp only [Option.bind_eq_some_iff] at h
  obtain ⟨d, e1, d2, e2, h⟩ := h
  have rn := w1.rd q1 e1
  cases d <;> simp only [excV] at e2 <;> first | (cases e2; done) | skip
  case exc en v0 =>
    cases e2
    have rn' : Rep X.K γ W1 (.exc en d2) v := rn
    simp only [Rep] at rn'
    obtain ⟨a, da, C, v', rfl, hcad, z1, z2, rv⟩ := rn'
    obtain ⟨ps, hp⟩ := cad en C hcad
    obtain ⟨C', T⟩ := o.cls en ps hp
    obtain ⟨f0, D, fI, TK, _⟩ := T.txt
    rw [T.cad] at hcad; cases hcad
    exact ⟨a, C, da, D, fI, f0, v', rfl, w1.z _ _ z1, w1.z _ _ z2, TK, (vl_get h out) v' H1 W1 (Wd.le_refl _) rfl w1 rv⟩
end
section
variable {X : L2.Cx} {γ : Nm} {c : Cz} {k : Nat} {body : List Stmt} {b : List S} {cl n n2 : Str} {i j : Nat} {np p2 p3 p4 pos pos' : Pos}
/-- try: body, except cl as n: n2 = n -/
theorem s_trk (o : Ok X γ c k) (stk : X.stack = X.env :: X.outer) (frm : X.env.frame = some X.env.locals) (hi : X.N[i]? = some n) (hj : X.N[j]? = some n2) (hln : X.env.kindOf n = some .local) (hlj : X.env.kindOf n2 = some .local) (hk : X.env.scope.kind = .function) (hij : i ≠ j)
    (hd : (n == ("__debug__" : Str)) = false ∧ (n == ("__classdict__" : Str)) = false) (hex : X.ex = []) (hg : Gl X cl) (hdb : (cl == ("__debug__" : Str)) = false) (hcl : (c.g.cls cl).isSome = true)
    (hb : ∀ (pn : List (Addr × Obj)) (xe : Value → Shared → Prop), PassesOwn (model X.prog X.w) X.A X.env xe → SSs (X.tr pn xe) γ c body b) :
    SS X γ c (.Try body [.ExceptHandler (some (.Name cl np)) (some n) [.Assign [.Name n2 p2] (.Name n p3) p4] pos'] [] [] pos) (.trk b cl i j) := fun Wx tk nn => by
  obtain ⟨psl, hc⟩ := Option.isSome_iff_exists.mp hcl
  obtain ⟨Cl, Tl⟩ := o.cls cl psl hc
  refine (ps_try_k (np := np) (p2 := p2) (p3 := p3) (p4 := p4) (pos := pos) (pos' := pos') (tb := fun Wx => tSs X.K γ c nn b Wx) (c := .ref Cl) stk frm o.nd hi hj hln hlj hk hij hd ⟨hg, hdb, .inl Tl.at_⟩ hex (fun W1 pn xe tkW pass => hb pn xe pass W1 tkW nn)).weak fun D σ H ⟨W, ρ, m, r, hW, hr, e, out⟩ => ?_
  simp only [exec] at e
  cases hx : execs c nn b ρ m with
  | none => rw [hx] at e; cases e
  | some rs =>
    rw [hx] at e
    refine ⟨W, ρ, m, rs, hW, hr, hx, ?_⟩
    cases rs with
    | nx ρ1 m1 => cases e; exact out
    | bk ρ1 m1 => cases e; exact out
    | rt t f m1 => cases e; exact out
    | ex er ρ1 m1 =>
      simp only at e
      split at e
      · rename_i c1 v1
        split at e
        · rename_i hcond
          simp only [Bool.and_eq_true, decide_eq_true_eq, List.contains_iff_mem] at hcond
          obtain ⟨⟨⟨_, hm⟩, l1⟩, l2⟩ := hcond
          cases e
          intro cls da σ' H' W' l w' hr' q
          obtain ⟨c2, d2, C, a1, v2, eq1, rfl, rfl, hcad, z1, rv⟩ := q
          cases eq1
          cases hp : c.g.cls c1 with
          | none => rw [hp] at hm; simp at hm
          | some ps =>
            rw [hp] at hm
            obtain ⟨C', T⟩ := o.cls c1 ps hp
            rw [T.cad] at hcad; cases hcad
            have hm' : cl ∈ ps := by simpa using hm
            refine ⟨C, a1, ?_, rfl, rfl, fun a ha => ?_⟩
            · rw [(T.rel cl psl Cl hc Tl.at_).1]; simp [hm']
            have hz := w'.notZ ha
            have w4 := (w'.new (o := .ext (ExcAt a C a1)) ha).frz hz upd_same trivial (fun n _ _ => w'.notF ha n) (w'.notH ha)
            have l4 : W'.le (W'.frz a (.ext (ExcAt a C a1))) := Wd.le_frz (.inl hz)
            have rep : RepT X.K γ (W'.frz a (.ext (ExcAt a C a1))) (.val (.exc c1 v1)) (.ref a) := by
              show Rep X.K γ _ (.exc c1 v1) (.ref a)
              simp only [Rep]
              exact ⟨a, a1, C, v2, rfl, T.cad, Wd.frz_at, l4.1 _ _ z1, rv.mono l4⟩
            have r4 : RhoOk X.K γ (W'.frz a (.ext (ExcAt a C a1))) ((ρ1.set j (some (.val (.exc c1 v1)))).set i none) (((σ'.set i (some (.ref a))).set j (some (.ref a))).set i none) := by
              have h1 := ((hr'.mono l4).set (i := j) rep).unset (i := i)
              refine ⟨?_, fun i' t' e' => ?_⟩
              · have := h1.len; simpa using this
              · obtain ⟨v', g1, g2⟩ := h1.get i' t' e'
                refine ⟨v', ?_, g2⟩
                by_cases hii : i' = i
                · subst hii
                  have hl : i' < ((ρ1.set j (some (.val (.exc c1 v1)))).set i' none).length := by simpa using l1
                  rw [List.getElem?_set_self (by simpa using l1)] at e'; cases e'
                · rw [List.getElem?_set_ne (Ne.symm hii)] at g1 ⊢
                  by_cases hjj : i' = j
                  · subst hjj
                    have hl : i' < σ'.length := by rw [← hr'.len]; exact l2
                    rw [List.getElem?_set_self (by simpa using hl)] at g1 ⊢
                    exact g1
                  · rw [List.getElem?_set_ne (Ne.symm hjj)] at g1 ⊢
                    rw [List.getElem?_set_ne (Ne.symm hii)]
                    exact g1
            exact out _ _ _ (l.trans (l4.leS nn)) w4 r4
        · cases e
      · cases e
end
end PY

set_option Elab.async false
set_option linter.all false
set_option maxRecDepth 100000
/-! PyR -/
namespace PY
open PySem PySem.Spec PyProof.Rows L2

/-! PyR -/
def noStar : Expr → Bool
  | .Starred _ _ => false
  | _ => true
theorem star_cons {x : Expr} {xs : List Expr} {env : Env} (h : noStar x = true) : starEach (x :: xs) env = (false, eval x env) :: starEach xs env := by
  cases x <;> first | rfl | cases h
theorem star_plain {env : Env} {pos : Pos} : ∀ {xs : List Expr}, xs.all noStar = true → (backTo pos (starEach xs env)).any (·.1) = false
  | [], _ => rfl
  | x :: xs, h => by
    rw [List.all_cons, Bool.and_eq_true] at h
    rw [star_cons h.1]
    show (false || (backTo pos (starEach xs env)).any (·.1)) = false
    rw [star_plain h.2]; rfl
def ixOf : List Str → Str → Option Nat
  | [], _ => none
  | y :: l, x => if y = x then some 0 else (ixOf l x).map (· + 1)
theorem ixOf_at : ∀ {l : List Str} {x : Str} {i : Nat}, ixOf l x = some i → l[i]? = some x
  | [], _, _, h => by cases h
  | y :: l, x, i, h => by
    unfold ixOf at h
    split at h
    · rename_i e
      cases h
      rw [e]; rfl
    · rw [Option.map_eq_some_iff] at h
      obtain ⟨j, hj, rfl⟩ := h
      rw [List.getElem?_cons_succ]
      exact ixOf_at hj
def visB (sc : Scope) (x : Str) : Bool := match sc.names.lookup x with
  | some .local => true
  | some .cell => true
  | some .free => true
  | _ => false
theorem visB_ok {sc : Scope} {x : Str} (h : visB sc x = true) : Vis sc x := by
  unfold visB at h
  split at h <;> first | (cases h; done) | skip
  · exact .inl ‹_›
  · exact .inr (.inl ‹_›)
  · exact .inr (.inr ‹_›)
def locB (sc : Scope) (x : Str) : Bool := match sc.names.lookup x with
  | some .local => true
  | some .cell => true
  | _ => false
theorem locB_ok {sc : Scope} {x : Str} (h : locB sc x = true) : L2.Loc sc x := by
  unfold locB at h
  split at h <;> first | (cases h; done) | skip
  · exact .inl ‹_›
  · exact .inr ‹_›
def isLocal (sc : Scope) (x : Str) : Bool := match sc.names.lookup x with
  | some .local => true
  | _ => false
theorem isLocal_ok {sc : Scope} {x : Str} (h : isLocal sc x = true) : sc.names.lookup x = some .local := by
  unfold isLocal at h
  split at h <;> first | (cases h; done) | assumption
def glB (sc : Scope) (x : Str) : Bool := match sc.names.lookup x with
  | some .globalImplicit => true
  | _ => false
theorem glB_ok {sc : Scope} {x : Str} (h : glB sc x = true) : sc.names.lookup x = some .globalImplicit := by
  unfold glB at h
  split at h <;> first | (cases h; done) | assumption
def odd (x : Str) : Bool := x == ("__debug__" : Str) || x == ("__classdict__" : Str) || x == ("__name__" : Str)
theorem odd_ok {x : Str} (h : odd x = false) : (x == ("__debug__" : Str)) = false ∧ (x == ("__classdict__" : Str)) = false ∧ x ≠ "__name__" := by
  unfold odd at h
  rw [Bool.or_eq_false_iff, Bool.or_eq_false_iff] at h
  exact ⟨h.1.1, h.1.2, fun e => by rw [e] at h; simp at h⟩
def notSet : Expr → Bool
  | .Set _ _ _ => false
  | _ => true
theorem notSet_ok {x : Expr} {env : Env} (h : notSet x = true) : ∀ v, foldedSetIterable x env v = pure v := by
  cases x <;> first | (intro v; rfl) | cases h
def plainIx : Expr → Bool
  | .Slice _ _ _ _ => false
  | _ => true

/-- where a def is told -/
structure Cc where
  N : List Str
  sc : Scope
  fn : Str → Bool
  g : Gz
  bl : List Str
structure CcOk (X : L2.Cx) (γ : Nm) (c : Cz) (k : Nat) (q : Cc) : Prop where
  ok : Ok X γ c k
  N : X.N = q.N
  sc : X.env.scope = q.sc
  fn : ∀ x, q.fn x = true → X.fn x = true
  g : q.g = c.g
  bl : ∀ x ∈ q.bl, X.mg x = none
  fad : ∀ f a, γ.fad f = some a → ∃ ps, c.g.par f = some ps
  cad : ∀ n C, γ.cad n = some C → ∃ ps, c.g.cls n = some ps
def blkQ (q : Cc) (scope : Scope) : Cc := { q with sc := relS scope q.sc, fn := fun x => scope.names.lookup x == some .cell }
theorem CcOk.blk {X : L2.Cx} {γ : Nm} {c : Cz} {k : Nat} {q : Cc} (h : CcOk X γ c k q) (s : Shared) (H : Hp) (scope : Scope) (C : Addr) (cl : List (Str × Addr)) (fp : List Addr) : CcOk (X.blk s H scope (compEnvC scope cl C X.env) fp) γ c k (blkQ q scope) := by
  obtain ⟨⟨o1, o2, o3, o4, o5, o6, o7, o8⟩, a1, a2, a3, a4, a5, a6, a7⟩ := h
  refine ⟨⟨o1, o2, o3, o4, o5, fun n d e => ?_, o7, o8⟩, a1, ?_, fun x e => e, a4, a5, a6, a7⟩
  · obtain ⟨u, v, x1, x2, x3⟩ := (o6 n d e).at_
    exact ⟨u, v, x1, x2, x3⟩
  · show relS scope X.env.scope = relS scope q.sc
    rw [a2]
def ownOf (N : List Str) (scope : Scope) : List (Str × Nat) := scope.names.filterMap fun p => match p.2 with
  | .local => (ixOf N p.1).map (p.1, ·)
  | .cell => (ixOf N p.1).map (p.1, ·)
  | _ => none
def nameIx (q : Cc) : Expr → Option Nat
  | .Name x _ => if locB q.sc x && (q.fn x || isLocal q.sc x) then ixOf q.N x else none
  | _ => none
def nameIxs (q : Cc) : List Expr → Option (List Nat)
  | [] => some []
  | x :: xs => (nameIx q x).bind fun i => (nameIxs q xs).map (i :: ·)
def deepIxs (q : Cc) : List Expr → Option (List (Nat ⊕ List Nat))
  | [] => some []
  | .Tuple es _ _ :: xs => (nameIxs q es).bind fun is => (deepIxs q xs).map (.inr is :: ·)
  | x :: xs => (nameIx q x).bind fun i => (deepIxs q xs).map (.inl i :: ·)
def cT (q : Cc) : Expr → Option Tg
  | .Name x p => (nameIx q (.Name x p)).map .one
  | .Tuple es _ _ => (match nameIxs q es with
    | some is => some (.many is)
    | none => (deepIxs q es).map .deep)
  | _ => none
section
variable {X : L2.Cx} {γ : Nm} {c : Cz} {k : Nat} {q : Cc}
theorem nameIx_ok (h : CcOk X γ c k q) {x : Expr} {i : Nat} (e : nameIx q x = some i) : ∃ nm p, x = .Name nm p ∧ X.N[i]? = some nm ∧ L2.Loc X.env.scope nm ∧ (X.fn nm = true ∨ X.env.scope.names.lookup nm = some .local) := by
  cases x <;> simp only [nameIx] at e <;> first | (cases e; done) | skip
  case Name x p =>
    split at e
    · rename_i hc
      rw [Bool.and_eq_true, Bool.or_eq_true] at hc
      refine ⟨x, p, rfl, by rw [h.N]; exact ixOf_at e, by rw [h.sc]; exact locB_ok hc.1, ?_⟩
      rcases hc.2 with g | g
      · exact .inl (h.fn x g)
      · exact .inr (by rw [h.sc]; exact isLocal_ok g)
    · cases e
theorem nameIxs_ok (h : CcOk X γ c k q) : ∀ {xs : List Expr} {is : List Nat}, nameIxs q xs = some is → Names X xs is
  | [], is, e => by
    simp only [nameIxs, Option.some.injEq] at e
    subst e
    exact .nil
  | x :: xs, is, e => by
    simp only [nameIxs, Option.bind_eq_some_iff, Option.map_eq_some_iff] at e
    obtain ⟨i, e1, is', e2, rfl⟩ := e
    obtain ⟨nm, p, rfl, a1, a2, a3⟩ := nameIx_ok h e1
    exact .cons a1 a2 a3 (nameIxs_ok h e2)
theorem deepIxs_ok (h : CcOk X γ c k q) : ∀ {xs : List Expr} {ts : List (Nat ⊕ List Nat)}, deepIxs q xs = some ts → Deep X xs ts
  | [], ts, e => by
    simp only [deepIxs, Option.some.injEq] at e
    subst e
    exact .nil
  | x :: xs, ts, e => by
    by_cases hx : ∃ es k p, x = .Tuple es k p
    · obtain ⟨es, k, p, rfl⟩ := hx
      simp only [deepIxs, Option.bind_eq_some_iff, Option.map_eq_some_iff] at e
      obtain ⟨is, e1, ts', e2, rfl⟩ := e
      exact .many (nameIxs_ok h e1) (deepIxs_ok h e2)
    · have e' : deepIxs q (x :: xs) = (nameIx q x).bind fun i => (deepIxs q xs).map (.inl i :: ·) := by
        cases x <;> first | rfl | exact absurd ⟨_, _, _, rfl⟩ hx
      rw [e'] at e
      simp only [Option.bind_eq_some_iff, Option.map_eq_some_iff] at e
      obtain ⟨i, e1, ts', e2, rfl⟩ := e
      obtain ⟨nm, p, rfl, a1, a2, a3⟩ := nameIx_ok h e1
      exact .one a1 a2 a3 (deepIxs_ok h e2)
theorem cT_ok (h : CcOk X γ c k q) {x : Expr} {t : Tg} (e : cT q x = some t) : SG X x t := by
  cases x <;> simp only [cT] at e <;> first | (cases e; done) | skip
  case Name x p =>
    rw [Option.map_eq_some_iff] at e
    obtain ⟨i, e1, rfl⟩ := e
    obtain ⟨nm, p', e2, a1, a2, a3⟩ := nameIx_ok h e1
    cases e2
    exact sg_one h.ok.nd a1 a2 a3
  case Tuple es kk p =>
    split at e
    · rename_i is e1
      cases e
      exact sg_many h.ok.nd h.ok.calm (nameIxs_ok h e1)
    · rw [Option.map_eq_some_iff] at e
      obtain ⟨ts, e1, rfl⟩ := e
      exact sg_deep h.ok.nd h.ok.calm (deepIxs_ok h e1)
end
/-- the call of a built-in -/
def bCall (f : Str) (es : List E) : E :=
  if f = "len" then .blt .len es else if f = "abs" then .blt .abs es else if f = "max" then .blt .max es else if f = "min" then .blt .min es else if f = "int" then .blt .int es
  else if f = "tuple" then .blt .tuple es else if f = "list" then .blt .list es else if f = "all" then .blt .all es else if f = "any" then .blt .any es else if f = "sum" then .blt .sum es
  else if f = "repr" then .blt .repr es else .bad
def isTy (x : Str) : Option String :=
  if x = "int" then some "int" else if x = "bool" then some "bool" else if x = "str" then some "str" else if x = "tuple" then some "tuple" else if x = "list" then some "list" else if x = "dict" then some "dict" else none
def kwNames : List Keyword → Option (List Str)
  | [] => some []
  | ⟨some n, _, _⟩ :: r => (kwNames r).map (n :: ·)
  | ⟨none, _, _⟩ :: _ => none
def ords (ks ps : List Str) : List Nat := ps.map fun p => (ixOf ks p).getD 0
def isTuple : Expr → Bool
  | .Tuple _ _ _ => true
  | _ => false
def minus1 : Expr → Bool
  | .UnaryOp .USub (.Constant (.int i) _ _) _ => i == 1
  | _ => false

def plainE (e : E) : E := if e.plainIt then e else .bad
section
variable (f : Cc → Expr → E)
def cBs (q : Cc) : PySem.BoolOp → List Expr → E
  | _, [] => .bad
  | _, [x] => f q x
  | .And, x :: y :: r => .and (f q x) (cBs q .And (y :: r))
  | .Or, x :: y :: r => .or (f q x) (cBs q .Or (y :: r))
def cI (q : Cc) (tg it : Expr) : E :=
  match it with
  | .Call (.Name g _) args kws _ => if (decide (g ∈ q.bl) && glB q.sc g && args.all noStar && kws.isEmpty && (g == ("range" : Str) || g == ("zip" : Str) || g == ("enumerate" : Str))) = true then
      (if g = "range" then (match args with
        | [a] => .rng [f q a]
        | [a, b] => .rng [f q a, f q b]
        | _ => .bad)
      else if g = "zip" then (match args with
        | [a, b] => if isTuple tg then .zip (f q a) (f q b) else .bad
        | _ => .bad)
      else (match args with
        | [a] => if isTuple tg then .enm (f q a) else .bad
        | _ => .bad))
    else plainE (f q it)
  | _ => plainE (f q it)
def cLC (q : Cc) (elt : Expr) (gs : List Comprehension) (scope : Scope) : E :=
  match gs with
  | [⟨tg, it, ifs, 0⟩] => (match cT (blkQ q scope) tg with
    | some t => if (blkC q.N q.sc scope (ownOf q.N scope) && t.ix.all (fun i => decide (i ∈ (ownOf q.N scope).map (·.2))) && notSet it) = true then
        (match ifs with
        | [] => .cmpr (f (blkQ q scope) elt) t (cI f q tg it) [] ((ownOf q.N scope).map (·.2))
        | [y] => .cmpr (f (blkQ q scope) elt) t (cI f q tg it) [f (blkQ q scope) y] ((ownOf q.N scope).map (·.2))
        | _ => .bad)
      else .bad
    | none => .bad)
  | _ => .bad
/-- a call of a name -/
def cC (q : Cc) (g : Str) (args : List Expr) (kws : List Keyword) : E :=
  if (odd g || !args.all noStar) = true then .bad else
  if glB q.sc g = true then
    match kws with
    | [] => (match q.g.par g with
      | some _ => (match args with
        | [] => .call g [] []
        | a :: as => .call g ((a :: as).map (f q)) (List.range' 0 ((a :: as).map (f q)).length))
      | none => if g ∈ q.bl then
          if g = "isinstance" then (match args with
            | [x, .Name tn _] => if odd tn = true then .bad else if (glB q.sc tn && decide (tn ∈ q.bl)) = true then (match isTy tn with | some t => .isi (f q x) t | none => .bad) else if (glB q.sc tn && (q.g.cls tn).isSome) = true then .isc (f q x) tn else .bad
            | _ => .bad)
          else (match args with
            | [] => .bad
            | a :: as => bCall g ((a :: as).map (f q)))
        else .bad)
    | kw :: kws => (match args, q.g.par g, kwNames (kw :: kws) with
      | [], some ps, some ks => if (decide ks.Nodup && decide (PY.pick ks (ords ks ps) = some ps) && ks.all (fun z => decide (z ∈ ps))) = true then .call g ((kw :: kws).map fun w => f q w.value) (ords ks ps) else .bad
      | _, _, _ => .bad)
  else if visB q.sc g = true then (match ixOf q.N g, kws, args with
    | some i, [], a :: as => .cloc i ((a :: as).map (f q))
    | _, _, _ => .bad)
  else .bad
def cStep (q : Cc) (x : Expr) : E :=
  match x with
  | .Name id _ => if odd id = true then .bad else if visB q.sc id = true then (match ixOf q.N id with | some i => .var i | none => .bad)
      else if glB q.sc id = true then (if (q.g.par id).isSome = true then .con (.fn id) else if (q.g.glob id).isSome = true then .glo id else .bad) else .bad
  | .Constant (.int i) _ _ => .con (.int i)
  | .Constant (.bool b) _ _ => .con (.bl b)
  | .Constant (.str z) _ _ => .con (.str z)
  | .Constant .none _ _ => .con .non
  | .BinOp l op r _ => .bin op (f q l) (f q r)
  | .UnaryOp .USub a _ => .neg (f q a)
  | .UnaryOp .Not a _ => .not (f q a)
  | .BoolOp op vs _ => cBs f q op vs
  | .IfExp t a b _ => .ife (f q t) (f q a) (f q b)
  | .Compare l [op] [r] _ => if behindInMarks op r = true then .bad else .cmp op (f q l) (f q r)
  | .Compare l [op, op'] [r, e] _ => if lastMarks [op, op'] [r, e] = true then .bad else .chn op op' (f q l) (f q r) (f q e)
  | .Tuple es _ _ => if es.all noStar = true then .tup (es.map (f q)) else .bad
  | .List es _ => if es.all noStar = true then .lst (es.map (f q)) else .bad
  | .Subscript a (.Slice none none none _) _ => .slc false false (f q a) []
  | .Subscript a (.Slice (some l) none none _) _ => .slc true false (f q a) [f q l]
  | .Subscript a (.Slice none (some h) none _) _ => .slc false true (f q a) [f q h]
  | .Subscript a (.Slice (some l) (some h) none _) _ => .slc true true (f q a) [f q l, f q h]
  | .Subscript a (.Slice none none (some (.UnaryOp .USub (.Constant (.int 1) _ _) _)) _) _ => .rev (f q a)
  | .Subscript a i _ => if plainIx i = true then .idx (f q a) (f q i) else .bad
  | .Call (.Name g _) args kws _ => cC f q g args kws
  | .ListComp elt gs scope _ => cLC f q elt gs scope
  | .Attribute (.Name nm p) m _ => if m = "value" then .fld (f q (.Name nm p)) else .bad
  | _ => .bad
end
def cE : Nat → Cc → Expr → E
  | 0, _, _ => .bad
  | n + 1, q, x => cStep (cE n) q x

/-! PyR -/
section
variable {γ : Nm} {c : Cz} {k : Nat}
/-- what f tells of an expression is so, as a value and as a test -/
def Told (γ : Nm) (c : Cz) (k : Nat) (f : Cc → Expr → E) : Prop := ∀ X q, CcOk X γ c k q → ∀ x, SE X γ c x (f q x) ∧ ST X γ c x (f q x)
variable {X : L2.Cx} {q : Cc} {f : Cc → Expr → E} {x : Expr}
theorem ev_bad (ρ : Rho) (m : Mu) : ev c .bad ρ m = none := by rw [ev]
theorem st_none {e : E} (h : ∀ ρ m, ev c e ρ m = none) : ST X γ c x e := fun Wx _ => ⟨fun pins s σ H Q I ⟨W, ρ, m, r, hW, hr, e1, out⟩ => by rw [h] at e1; cases e1⟩
theorem bad_ok : SE X γ c x .bad ∧ ST X γ c x .bad := ⟨se_bad ev_bad, st_none ev_bad⟩
/-- expressions whose truth is their value's -/
def plainT : Expr → Bool
  | .UnaryOp .Not _ _ => false
  | .BoolOp _ _ _ => false
  | .IfExp _ _ _ _ => false
  | .Compare _ _ _ _ => false
  | _ => true
theorem plainT_ok (h : plainT x = true) (env : Env) : ∀ whole, PySem.isTrue x env whole = (do let v ← whole; standAt x.pos; holding [v] (truthy v)) := by
  cases x <;> first | (intro w; rfl) | (cases h; done) | skip
  case UnaryOp op a p => cases op <;> first | (intro w; rfl) | cases h
theorem both {e : E} (h : plainT x = true) (s : SE X γ c x e) : SE X γ c x e ∧ ST X γ c x e := ⟨s, st_val s (plainT_ok h X.env)⟩
theorem sl_map (hf : Told γ c k f) (hq : CcOk X γ c k q) : ∀ {xs : List Expr}, xs.all noStar = true → SL X γ c xs (xs.map (f q))
  | [], _ => sl_nil
  | x :: xs, h => by
    rw [List.all_cons, Bool.and_eq_true] at h
    exact sl_cons (hf X q hq x).1 (sl_map hf hq h.2) (star_cons h.1)
theorem sf_map (hf : Told γ c k f) (hq : CcOk X γ c k q) : ∀ {xs : List Expr}, xs.all noStar = true → SF X γ c xs (xs.map (f q))
  | [], _ => sf_nil
  | x :: xs, h => by
    rw [List.all_cons, Bool.and_eq_true] at h
    exact sf_cons (hf X q hq x).1 (sf_map hf hq h.2) (star_cons h.1)
theorem sk_map (hf : Told γ c k f) (hq : CcOk X γ c k q) : ∀ {ks : List Keyword}, SK X γ c ks (ks.map fun w => f q w.value)
  | [] => sk_nil
  | ⟨nm, x, p⟩ :: ks => sk_cons (hf X q hq x).1 (sk_map hf hq)
theorem cBs_and (hf : Told γ c k f) (hq : CcOk X γ c k q) {pos : Pos} : ∀ {vs : List Expr}, vs ≠ [] → SE X γ c (.BoolOp .And vs pos) (cBs f q .And vs) ∧ SW X γ c (.BoolOp .And vs pos) (cBs f q .And vs)
  | [], h => absurd rfl h
  | [x], _ => ⟨se_one (hf X q hq x).1, sw_one (hf X q hq x).2⟩
  | x :: y :: r, _ => by
    obtain ⟨h1, h2⟩ := cBs_and hf hq (pos := pos) (vs := y :: r) (by simp)
    exact ⟨se_and (hf X q hq x).1 h1, sw_and (hf X q hq x).2 h2⟩
theorem cBs_or (hf : Told γ c k f) (hq : CcOk X γ c k q) {pos : Pos} : ∀ {vs : List Expr}, vs ≠ [] → SE X γ c (.BoolOp .Or vs pos) (cBs f q .Or vs) ∧ SW X γ c (.BoolOp .Or vs pos) (cBs f q .Or vs)
  | [], h => absurd rfl h
  | [x], _ => ⟨se_one (hf X q hq x).1, sw_one (hf X q hq x).2⟩
  | x :: y :: r, _ => by
    obtain ⟨h1, h2⟩ := cBs_or hf hq (pos := pos) (vs := y :: r) (by simp)
    exact ⟨se_or (hf X q hq x).1 h1, sw_or (hf X q hq x).2 h2⟩
theorem gl_ok (hq : CcOk X γ c k q) {g : Str} (h : glB q.sc g = true) : Gl X g := by
  show X.env.scope.names.lookup g = _
  rw [hq.sc]; exact glB_ok h
theorem si_plain {tg : Expr} {e : E} (h : SE X γ c x e) : SI X γ c tg x (plainE e) := by
  unfold plainE
  split
  · exact si_seq h ‹_›
  · exact si_seq (se_bad ev_bad) rfl
theorem cI_ok (hf : Told γ c k f) (hq : CcOk X γ c k q) {tg it : Expr} : SI X γ c tg it (cI f q tg it) := by
  have plain : ∀ it, SI X γ c tg it (plainE (f q it)) := fun it => si_plain (hf X q hq it).1
  have bad : ∀ it, SI X γ c tg it .bad := fun it => si_seq (se_bad ev_bad) rfl
  unfold cI
  split
  · rename_i g p args kws pos
    split
    · rename_i hc
      simp only [Bool.and_eq_true, decide_eq_true_eq] at hc
      obtain ⟨⟨⟨⟨h1, h2⟩, h3⟩, h4⟩, h5⟩ := hc
      have e4 : kws = [] := by cases kws with | nil => rfl | cons _ _ => cases h4
      subst e4
      have hm := hq.bl g h1
      have hg := gl_ok hq h2
      split
      · rename_i eg
        subst eg
        split
        · rename_i a
          exact si_rng1 hg hm (sl_map hf hq h3) (star_cons (by simpa using h3))
        · rename_i a b
          have h3' : noStar a = true ∧ noStar b = true := by simpa using h3
          exact si_rng2 hg hm (sl_map hf hq h3) (by rw [star_cons h3'.1, star_cons h3'.2]; rfl) (by rw [star_cons h3'.2]; rfl)
        · exact bad _
      · split
        · rename_i eg
          subst eg
          split
          · rename_i a b
            split
            · rename_i ht
              have h3' : noStar a = true ∧ noStar b = true := by simpa using h3
              cases tg <;> first | (cases ht; done) | skip
              case Tuple es kk tp => exact si_zip hg hm (sl_map hf hq h3) (star_cons h3'.1) (star_plain (by simp [h3'.2]))
            · exact bad _
          · exact bad _
        · rename_i n1 n2
          have eg : g = "enumerate" := by
            simp only [Bool.or_eq_true, beq_iff_eq] at h5
            rcases h5 with (e | e) | e
            · exact absurd e n1
            · exact absurd e n2
            · exact e
          subst eg
          split
          · rename_i a
            split
            · rename_i ht
              have h3' : noStar a = true := by simpa using h3
              cases tg <;> first | (cases ht; done) | skip
              case Tuple es kk tp => exact si_enm hg hm (sl_map hf hq (xs := [a]) h3) (star_cons h3')
            · exact bad _
          · exact bad _
    · exact plain _
  · exact plain _
theorem cLC_ok (hf : Told γ c k f) (hq : CcOk X γ c k q) {elt : Expr} {gs : List Comprehension} {scope : Scope} {pos : Pos} : SE X γ c (.ListComp elt gs scope pos) (cLC f q elt gs scope) := by
  unfold cLC
  split
  · rename_i tg it ifs
    split
    · rename_i t ht
      split
      · rename_i hc
        simp only [Bool.and_eq_true, List.all_eq_true, decide_eq_true_eq] at hc
        obtain ⟨⟨h1, h2⟩, h3⟩ := hc
        have ok : BlkOk X.N X.env.scope scope (ownOf q.N scope) := by rw [hq.N, hq.sc]; exact blkOk_by h1
        have hb := fun s H C cl fp => hq.blk s H scope C cl fp
        split
        · exact se_cmpr hq.ok.calm hq.ok.nd (cI_ok hf hq) ok h2 (fun s H C cl fp => cT_ok (hb s H C cl fp) ht) (fun s H C cl fp => scs_nil) (fun s H C cl fp => (hf _ _ (hb s H C cl fp) elt).1) (notSet_ok h3)
        · rename_i y
          exact se_cmpr hq.ok.calm hq.ok.nd (cI_ok hf hq) ok h2 (fun s H C cl fp => cT_ok (hb s H C cl fp) ht) (fun s H C cl fp => scs_one (hf _ _ (hb s H C cl fp) y).2) (fun s H C cl fp => (hf _ _ (hb s H C cl fp) elt).1) (notSet_ok h3)
        · exact se_bad ev_bad
      · exact se_bad ev_bad
    · exact se_bad ev_bad
  · exact se_bad ev_bad
end
section
variable {γ : Nm} {c : Cz} {k : Nat} {X : L2.Cx} {q : Cc} {f : Cc → Expr → E} {x : Expr}
theorem bn_int : bootBuiltins "int" = some (.type "int") := by decide +kernel
theorem bn_bool : bootBuiltins "bool" = some (.type "bool") := by decide +kernel
theorem bn_str : bootBuiltins "str" = some (.type "str") := by decide +kernel
theorem bn_tuple : bootBuiltins "tuple" = some (.type "tuple") := by decide +kernel
theorem bn_list : bootBuiltins "list" = some (.type "list") := by decide +kernel
theorem bn_dict : bootBuiltins "dict" = some (.type "dict") := by decide +kernel
theorem bn_len : bootBuiltins "len" = some (.builtin "len") := by decide +kernel
theorem bn_abs : bootBuiltins "abs" = some (.builtin "abs") := by decide +kernel
theorem bn_max : bootBuiltins "max" = some (.builtin "max") := by decide +kernel
theorem bn_min : bootBuiltins "min" = some (.builtin "min") := by decide +kernel
theorem bn_all : bootBuiltins "all" = some (.builtin "all") := by decide +kernel
theorem bn_any : bootBuiltins "any" = some (.builtin "any") := by decide +kernel
theorem bn_sum : bootBuiltins "sum" = some (.builtin "sum") := by decide +kernel
theorem bn_repr : bootBuiltins "repr" = some (.builtin "repr") := by decide +kernel
theorem bn_isinstance : bootBuiltins "isinstance" = some (.builtin "isinstance") := by decide +kernel
theorem isTy_ok {n : Str} {t : String} (h : isTy n = some t) : bootBuiltins n = some (.type t) := by
  unfold isTy at h
  split at h
  · rename_i e; subst e; cases h; exact bn_int
  · split at h
    · rename_i e; subst e; cases h; exact bn_bool
    · split at h
      · rename_i e; subst e; cases h; exact bn_str
      · split at h
        · rename_i e; subst e; cases h; exact bn_tuple
        · split at h
          · rename_i e; subst e; cases h; exact bn_list
          · split at h
            · rename_i e; subst e; cases h; exact bn_dict
            · cases h
/-- one row of bCall -/
theorem ifb {P : E → Prop} {g n : Str} {a b : E} (h1 : g = n → P a) (h2 : P b) : P (if g = n then a else b) := by
  by_cases h : g = n
  · rw [if_pos h]; exact h1 h
  · rw [if_neg h]; exact h2
theorem bCall_ok (hq : CcOk X γ c k q) {g : Str} {a : Expr} {as : List Expr} {es : List E} {p pos : Pos} (hg : Gl X g) (hm : X.mg g = none) (ho : odd g = false) (ha : SL X γ c (a :: as) es) (hn : (a :: as).all noStar = true) : SE X γ c (.Call (.Name g p) (a :: as) [] pos) (bCall g es) := by
  obtain ⟨o1, o2, o3⟩ := odd_ok ho
  have h' := hn
  rw [List.all_cons, Bool.and_eq_true] at h'
  have s1 := star_cons (xs := as) (env := X.env) h'.1
  have s2 := star_plain (env := X.env) (pos := pos) h'.2
  have hc := hq.ok.calm
  have rB : ∀ {b : Bt} {n : Str} {id : String}, bootBuiltins n = some (.builtin id) → CallR X (.builtin id) (rL X.K γ (blt b)) → g = n → SE X γ c (.Call (.Name g p) (a :: as) [] pos) (.blt b es) := fun {b n id} hv hr e => se_bltB hr hg hm (by rw [e]; exact hv) o3 o1 ha s1 s2
  have rT : ∀ {b : Bt} {n : Str} {id : String}, bootBuiltins n = some (.type id) → CallR X (.type id) (rL X.K γ (blt b)) → g = n → SE X γ c (.Call (.Name g p) (a :: as) [] pos) (.blt b es) := fun {b n id} hv hr e => se_bltT hr hg hm (by rw [e]; exact hv) o3 o1 ha s1 s2
  unfold bCall
  refine ifb (P := fun e => SE X γ c (.Call (.Name g p) (a :: as) [] pos) e) (rB bn_len blt_len) ?_
  refine ifb (P := fun e => SE X γ c (.Call (.Name g p) (a :: as) [] pos) e) (rB bn_abs blt_abs) ?_
  refine ifb (P := fun e => SE X γ c (.Call (.Name g p) (a :: as) [] pos) e) (rB bn_max (blt_max hc)) ?_
  refine ifb (P := fun e => SE X γ c (.Call (.Name g p) (a :: as) [] pos) e) (rB bn_min (blt_min hc)) ?_
  refine ifb (P := fun e => SE X γ c (.Call (.Name g p) (a :: as) [] pos) e) (rT bn_int blt_int) ?_
  refine ifb (P := fun e => SE X γ c (.Call (.Name g p) (a :: as) [] pos) e) (rT bn_tuple blt_tuple) ?_
  refine ifb (P := fun e => SE X γ c (.Call (.Name g p) (a :: as) [] pos) e) (rT bn_list blt_list) ?_
  refine ifb (P := fun e => SE X γ c (.Call (.Name g p) (a :: as) [] pos) e) (rB bn_all (blt_all hc)) ?_
  refine ifb (P := fun e => SE X γ c (.Call (.Name g p) (a :: as) [] pos) e) (rB bn_any (blt_any hc)) ?_
  refine ifb (P := fun e => SE X γ c (.Call (.Name g p) (a :: as) [] pos) e) (rB bn_sum (blt_sum hc)) ?_
  exact ifb (P := fun e => SE X γ c (.Call (.Name g p) (a :: as) [] pos) e) (rB bn_repr (blt_repr hq.ok.hg hq.ok.hu)) (se_bad ev_bad)
theorem kwNames_ok {env : Env} {pos : Pos} : ∀ {ks : List Keyword} {ns : List Str}, kwNames ks = some ns →
    (backToKw pos (keywordEach ks env)).all (·.1.isSome) = true ∧ (backToKw pos (keywordEach ks env)).filterMap (·.1) = ns ∧ (backToKw pos (keywordEach ks env)).any (·.1.isNone) = false ∧ ns.length = ks.length
  | [], ns, h => by
    simp only [kwNames, Option.some.injEq] at h
    subst h
    exact ⟨rfl, rfl, rfl, rfl⟩
  | ⟨some n, x, p⟩ :: ks, ns, h => by
    simp only [kwNames, Option.map_eq_some_iff] at h
    obtain ⟨ns', h, rfl⟩ := h
    obtain ⟨a1, a2, a3, a4⟩ := kwNames_ok (env := env) (pos := pos) h
    refine ⟨?_, ?_, ?_, by rw [List.length_cons, List.length_cons, a4]⟩
    · show (true && (backToKw pos (keywordEach ks env)).all (·.1.isSome)) = true
      rw [a1]; rfl
    · show n :: (backToKw pos (keywordEach ks env)).filterMap (·.1) = _
      rw [a2]
    · show (false || (backToKw pos (keywordEach ks env)).any (·.1.isNone)) = false
      rw [a3]; rfl
  | ⟨none, x, p⟩ :: ks, ns, h => by cases h
theorem cC_ok (hf : Told γ c k f) (hq : CcOk X γ c k q) {g : Str} {args : List Expr} {kws : List Keyword} {p pos : Pos} : SE X γ c (.Call (.Name g p) args kws pos) (cC f q g args kws) := by
  have bad : ∀ {x : Expr}, SE X γ c x .bad := se_bad ev_bad
  unfold cC
  split
  · exact bad
  rename_i hc
  rw [Bool.not_eq_true, Bool.or_eq_false_iff, Bool.not_eq_false'] at hc
  obtain ⟨ho, hn⟩ := hc
  obtain ⟨o1, o2, o3⟩ := odd_ok ho
  split
  · rename_i hg
    have hg := gl_ok hq hg
    split
    · split
      · rename_i ps hp
        rw [hq.g] at hp
        split
        · exact se_call0 hq.ok hg o1 hp
        · rename_i a as
          have h' := hn
          rw [List.all_cons, Bool.and_eq_true] at h'
          exact se_call hq.ok hg o1 (sl_map hf hq hn) (star_cons h'.1) (star_plain h'.2) hp
      · split
        · rename_i hb
          have hm := hq.bl g hb
          split
          · rename_i eg
            subst eg
            split
            · rename_i x tn p2
              split
              · exact bad
              rename_i h2
              split
              · rename_i h3
                rw [Bool.and_eq_true, decide_eq_true_eq] at h3
                split
                · rename_i t ht
                  obtain ⟨t1, t2, t3⟩ := odd_ok (Bool.not_eq_true _ ▸ h2)
                  have h' := hn
                  rw [List.all_cons, Bool.and_eq_true] at h'
                  exact se_isi hg hm bn_isinstance o3 o1 (gl_ok hq h3.1) (hq.bl tn h3.2) (isTy_ok ht) t3 t1 (hf X q hq x).1 (star_cons h'.1)
                · exact bad
              · split
                · rename_i h4
                  rw [Bool.and_eq_true] at h4
                  obtain ⟨t1, t2, t3⟩ := odd_ok (Bool.not_eq_true _ ▸ h2)
                  have h' := hn
                  rw [List.all_cons, Bool.and_eq_true] at h'
                  exact se_isc hq.ok hg hm bn_isinstance o3 o1 (gl_ok hq h4.1) t1 (by rw [← hq.g]; exact h4.2) (hf X q hq x).1 (star_cons h'.1)
                · exact bad
            · exact bad
          · split
            · exact bad
            · rename_i a as
              exact bCall_ok hq hg hm ho (sl_map hf hq hn) hn
        · exact bad
    · rename_i kw kws
      split
      · rename_i ps ks hp hk
        rw [hq.g] at hp
        split
        · rename_i hc
          simp only [Bool.and_eq_true, decide_eq_true_eq, List.all_eq_true] at hc
          obtain ⟨⟨c1, c2⟩, c3⟩ := hc
          obtain ⟨a1, a2, a3, a4⟩ := kwNames_ok (env := X.env) (pos := pos) hk
          exact se_callK hq.ok hg o1 (sk_map hf hq) a1 a2 (by rw [a3]; rfl) c1 (by rw [List.length_map, a4]) hp ⟨c2, c3⟩
        · exact bad
      · exact bad
  · split
    · rename_i hv
      split
      · rename_i i a as hi
        have h' := hn
        rw [List.all_cons, Bool.and_eq_true] at h'
        exact se_cloc hq.ok (by rw [hq.N]; exact ixOf_at hi) (by rw [hq.sc]; exact visB_ok hv) o1 o2 (sl_map hf hq hn) (star_cons h'.1) (star_plain h'.2) hq.fad
      · exact bad
    · exact bad
theorem plainIx_ok (h : plainIx x = true) : PlainIx x := by
  cases x <;> first | (intro o i; rfl) | cases h
theorem cStep_ok (hf : Told γ c k f) : Told γ c k (cStep f) := by
  intro X q hq x
  have H := fun y => hf X q hq y
  unfold cStep
  split
  · rename_i id p
    refine both rfl ?_
    split
    · exact se_bad ev_bad
    rename_i ho
    obtain ⟨o1, o2, o3⟩ := odd_ok (Bool.not_eq_true _ ▸ ho)
    split
    · rename_i hv
      split
      · rename_i i hi
        exact se_var (by rw [hq.N]; exact ixOf_at hi) (by rw [hq.sc]; exact visB_ok hv) o1 o2
      · exact se_bad ev_bad
    · split
      · rename_i hg
        split
        · rename_i hp
          rw [hq.g] at hp
          obtain ⟨ps, hp⟩ := Option.isSome_iff_exists.mp hp
          exact se_fn hq.ok (gl_ok hq hg) o1 hp
        · split
          · rename_i hp
            rw [hq.g] at hp
            exact se_glo (gl_ok hq hg) (fun d e => hq.ok.glob id d e) hp o1
          · exact se_bad ev_bad
      · exact se_bad ev_bad
  · exact both rfl se_int
  · exact both rfl se_bl
  · exact both rfl se_str
  · exact both rfl se_non
  · exact both rfl (se_bin (H _).1 (H _).1)
  · exact both rfl (se_neg (H _).1)
  · exact ⟨se_not (H _).1, st_not (H _).2⟩
  · rename_i op vs p
    cases vs with
    | nil => cases op <;> (simp only [cBs]; exact bad_ok)
    | cons v vs =>
      cases op with
      | And => exact ⟨(cBs_and hf hq (by simp)).1, (cBs_and hf hq (by simp)).2.st⟩
      | Or => exact ⟨(cBs_or hf hq (by simp)).1, (cBs_or hf hq (by simp)).2.st⟩
  · exact ⟨se_ife (H _).2 (H _).1 (H _).1, st_ife (H _).2 (H _).2 (H _).2⟩
  · split
    · exact bad_ok
    · rename_i hm
      rw [Bool.not_eq_true] at hm
      exact ⟨se_cmp hq.ok.hu (H _).1 (H _).1 hm, st_cmp hq.ok.hu (H _).1 (H _).1 hm⟩
  · split
    · exact bad_ok
    · rename_i hm
      rw [Bool.not_eq_true] at hm
      exact ⟨se_chn hq.ok.hu (H _).1 (H _).1 (H _).1 hm, st_chn hq.ok.hu (H _).1 (H _).1 (H _).1 hm⟩
  · refine both rfl ?_
    split
    · exact se_tup (sl_map hf hq ‹_›)
    · exact se_bad ev_bad
  · refine both rfl ?_
    split
    · exact se_lst (sl_map hf hq ‹_›)
    · exact se_bad ev_bad
  · exact both rfl (se_slc00 (H _).1)
  · exact both rfl (se_slc10 (H _).1 (H _).1)
  · exact both rfl (se_slc01 (H _).1 (H _).1)
  · exact both rfl (se_slc11 (H _).1 (H _).1 (H _).1)
  · exact both rfl (se_rev (H _).1)
  · refine both rfl ?_
    split
    · exact se_idx (H _).1 (H _).1 (plainIx_ok ‹_›)
    · exact se_bad ev_bad
  · exact both rfl (cC_ok hf hq)
  · exact both rfl (cLC_ok hf hq)
  · rename_i nm p m p2
    refine both rfl ?_
    split
    · rename_i e
      subst e
      exact se_fld hq.ok hq.cad (H _).1 rfl
    · exact se_bad ev_bad
  · exact bad_ok
theorem CcOk.tr {pn : List (Addr × Obj)} {xe : Value → Shared → Prop} (h : CcOk X γ c k q) : CcOk (X.tr pn xe) γ c k q := by
  obtain ⟨⟨o1, o2, o3, o4, o5, o6, o7, o8⟩, a1, a2, a3, a4, a5, a6, a7⟩ := h
  refine ⟨⟨o1, o2, o3, o4, o5, fun n d e => ?_, o7, o8⟩, a1, a2, a3, a4, a5, a6, a7⟩
  obtain ⟨u, v, x1, x2, x3⟩ := (o6 n d e).at_
  exact ⟨u, v, x1, x2, x3⟩
theorem cE_ok : ∀ n, Told γ c k (cE n)
  | 0 => fun X q hq x => bad_ok
  | n + 1 => cStep_ok (cE_ok n)
end
end PY

set_option Elab.async false
set_option linter.all false
set_option maxRecDepth 100000
/-! PyS -/
namespace PY
open PySem PySem.Spec PyProof.Rows L2

/-- a comprehension that is kept by the name itself -/
def swV (sc : Scope) (nm : Str) (p : Pos) : Expr → Bool
  | .ListComp _ _ s cp => isLocal sc nm && p.line == cp.line && !(s.names.any fun (n, k) => n == nm && (k == .local || k == .cell))
  | .SetComp _ _ s cp => isLocal sc nm && p.line == cp.line && !(s.names.any fun (n, k) => n == nm && (k == .local || k == .cell))
  | .DictComp _ _ _ s cp => isLocal sc nm && p.line == cp.line && !(s.names.any fun (n, k) => n == nm && (k == .local || k == .cell))
  | _ => false
theorem isLocal_eq {env : Env} {nm : Str} : (env.kindOf nm == some .local) = isLocal env.scope nm := by
  unfold isLocal Env.kindOf
  split
  · rename_i h; rw [h]; rfl
  · rename_i h
    cases e : env.scope.names.lookup nm with
    | none => rfl
    | some kk => cases kk <;> first | rfl | exact absurd e h
theorem blk_fn {env : Env} (hk : env.scope.kind = .function) : (env.blockKind == .function) = true := by
  unfold Env.blockKind
  rw [hk]; rfl
theorem swV_ok {env : Env} {nm : Str} {p : Pos} {x : Expr} {l : Nat} (hk : env.scope.kind = .function) : swapsWith x (some (.Name nm p)) l env = pure (swV env.scope nm p x) := by
  cases x <;> first | rfl | skip
  all_goals
    unfold swapsWith swV
    simp only [blk_fn hk, isLocal_eq, Bool.true_and, Expr.pos]
def notComp : Expr → Bool
  | .ListComp _ _ _ _ => false
  | .SetComp _ _ _ _ => false
  | .DictComp _ _ _ _ _ => false
  | _ => true
theorem sw_drop {env : Env} {x : Expr} {l : Nat} (h : notComp x = true) : swapsWith x none l env = pure false := by
  cases x <;> first | rfl | cases h
theorem sw_other {env : Env} {x t : Expr} {l : Nat} (h : ∀ nm p, t ≠ .Name nm p) : swapsWith x (some t) l env = pure false := by
  cases x <;> first | rfl | skip
  all_goals
    cases t <;> first | rfl | exact absurd rfl (h _ _)
def isStar : Expr → Bool
  | .Starred .. => true
  | _ => false
def locNm (env : Env) (line : Nat) : Expr → Option Str
  | .Name id pos => if env.kindOf id == some .local && pos.line == line then some id else none
  | _ => none
def locNms (sc : Scope) (line : Nat) : List Expr → List Str
  | [] => []
  | .Name id pos :: r => if (isLocal sc id && pos.line == line) = true then id :: locNms sc line r else locNms sc line r
  | _ :: r => locNms sc line r
theorem locNms_eq {env : Env} {line : Nat} : ∀ ts : List Expr, ts.filterMap (locNm env line) = locNms env.scope line ts
  | [] => rfl
  | t :: r => by
    have ih := locNms_eq (env := env) (line := line) r
    cases t <;> first | exact ih | skip
    case Name id pos =>
      rw [List.filterMap_cons]
      simp only [locNm, locNms, isLocal_eq]
      by_cases h : (isLocal env.scope id && pos.line == line) = true
      · simp only [h, if_true, ih]
      · simp only [h, if_false, ih]
        rfl
theorem sw_eq {env : Env} {ts vs : List Expr} {k k2 : Nat} {tp vp : Pos} : swappedStores [.Tuple ts k tp] (.Tuple vs k2 vp) env =
    (if (!(ts.length == 2 || ts.length == 3) || vs.length != ts.length || env.blockKind != .function) = true then pure none
    else if vs.any isStar = true then pure none
    else if ((ts.filterMap (locNm env ((ts.head?.map (·.pos.line)).getD 0))).length != ts.length || (ts.filterMap (locNm env ((ts.head?.map (·.pos.line)).getD 0))).eraseDups.length != (ts.filterMap (locNm env ((ts.head?.map (·.pos.line)).getD 0))).length) = true then pure none
    else if vs.all (foldedForSure 8) = true then pure none
    else if vs.all (constantsAlone 8) = true then (do unsupported "assign.tuple-of-constant-expressions:order-of-the-stores"; pure (some (ts.filterMap (locNm env ((ts.head?.map (·.pos.line)).getD 0)))))
    else pure (some (ts.filterMap (locNm env ((ts.head?.map (·.pos.line)).getD 0))))) := by
  rfl
/-- whether two displays are stored from the right -/
def swN (sc : Scope) (ts vs : List Expr) : Option (Option (List Str)) :=
  if (!(ts.length == 2 || ts.length == 3) || vs.length != ts.length) = true then some none
  else if vs.any isStar = true then some none
  else if ((locNms sc ((ts.head?.map (·.pos.line)).getD 0) ts).length != ts.length || (locNms sc ((ts.head?.map (·.pos.line)).getD 0) ts).eraseDups.length != (locNms sc ((ts.head?.map (·.pos.line)).getD 0) ts).length) = true then some none
  else if vs.all (foldedForSure 8) = true then some none
  else if vs.all (constantsAlone 8) = true then none
  else some (some (locNms sc ((ts.head?.map (·.pos.line)).getD 0) ts))
theorem swN_ok {env : Env} {ts vs : List Expr} {k k2 : Nat} {tp vp : Pos} {r : Option (List Str)} (hk : env.scope.kind = .function) (h : swN env.scope ts vs = some r) : swappedStores [.Tuple ts k tp] (.Tuple vs k2 vp) env = pure r := by
  have hb : (env.blockKind != .function) = false := by
    have := blk_fn hk
    cases e : env.blockKind <;> rw [e] at this <;> first | rfl | cases this
  rw [sw_eq, locNms_eq, hb, Bool.or_false]
  unfold swN at h
  split at h
  · rename_i h1; cases h; rw [if_pos h1]
  rename_i h1; rw [if_neg h1]
  split at h
  · rename_i h1; cases h; rw [if_pos h1]
  rename_i h1; rw [if_neg h1]
  split at h
  · rename_i h1; cases h; rw [if_pos h1]
  rename_i h1; rw [if_neg h1]
  split at h
  · rename_i h1; cases h; rw [if_pos h1]
  rename_i h1; rw [if_neg h1]
  split at h
  · cases h
  rename_i h1; rw [if_neg h1]
  cases h; rfl
def celB (cl : List Str) (ts : List Expr) : List Bool := ts.map fun t => match t with
  | .Name x _ => decide (x ∈ cl)
  | _ => false
def plainsB (q : Cc) (l : List (Str × Nat)) : Bool := l.all fun p => decide (q.N[p.2]? = some p.1) && isLocal q.sc p.1
def endL (ap cp : Pos) : Bool := ap.endLine == cp.line
section
variable (e : Cc → Expr → E) (ss : List Stmt → List S)
def cStepS (q : Cc) (cl : List Str) (st : Stmt) : S :=
  match st with
  | .Assign [.Name nm p] x _ => (match nameIx q (.Name nm p) with
    | some i =>
      if swV q.sc nm p x = true then (match x with
        | .ListComp elt gs scope _ => if isLocal q.sc nm = true then (if nm ∈ cl then .cell i (cLC e q elt gs scope) else .set i (cLC e q elt gs scope)) else .bad
        | _ => .bad)
      else if nm ∈ cl then .cell i (e q x) else .set i (e q x)
    | none => .bad)
  | .Assign [.Tuple ts _ _] (.Tuple vs k2 vp) _ => (match nameIxs q ts with
    | some is => if (vs.all noStar && decide (is.length ≤ 100)) = true then (match swN q.sc ts vs with
      | some none => .par is (celB cl ts) (vs.map (e q))
      | some (some ns) => if (plainsB q (ns.zip is) && decide (ns.length = is.length) && decide is.Nodup) = true then .par is (celB cl ts) (vs.map (e q)) else .bad
      | none => .bad) else .bad
    | none => (match deepIxs q ts, swN q.sc ts vs with
      | some ds, some none => .setd ds (e q (.Tuple vs k2 vp))
      | _, _ => .bad))
  | .Assign [.Tuple ts _ _] x _ => (match nameIxs q ts with
    | some is => .sets is (e q x)
    | none => .bad)
  | .Assign [.Subscript (.Name nm _) y _] x _ => if (odd nm || !visB q.sc nm || !plainIx y) = true then .bad else (match ixOf q.N nm with
    | some i => .sub i (e q y) (e q x)
    | none => .bad)
  | .AugAssign (.Name nm p) .Add x _ => (match nameIx q (.Name nm p) with
    | some i => .aug i .Add (e q x)
    | none => .bad)
  | .AugAssign (.Name nm p) .Sub x _ => (match nameIx q (.Name nm p) with
    | some i => .aug i .Sub (e q x)
    | none => .bad)
  | .Expr (.Call (.Attribute (.Name nm _) m ap) [x] [] cp) _ => if (odd nm || !visB q.sc nm || !noStar x || !endL ap cp) = true then .bad else (match ixOf q.N nm with
    | some i => if m = "append" then .app i (e q x) else if m = "extend" then .ext i (e q x) else .bad
    | none => .bad)
  | .Expr (.Constant (.str _) _ _) _ => .pass
  | .Expr x _ => if notComp x = true then .ex (e q x) else .bad
  | .If t a b _ => .ite (e q t) (ss a) (ss b)
  | .While t b [] _ => .whl (e q t) (ss b)
  | .For tg it b [] _ => (match cT q tg with
    | some t => if notSet it = true then .for t (cI e q tg it) (ss b) else .bad
    | none => .bad)
  | .Return (some x) _ => .ret (e q x)
  | .Return none _ => .retn
  | .Break _ => .brk
  | .Pass _ => .pass
  | .Raise (some (.Call (.Name nm _) [x] [] _)) none _ => if (odd nm || !glB q.sc nm || !noStar x || !(q.g.cls nm).isSome) = true then .bad else .rse nm (e q x)
  | .Try body [.ExceptHandler (some (.Name c2 _)) (some n) [.Assign [.Name n2 _] (.Name n3 _) _] _] [] [] _ => (match ixOf q.N n, ixOf q.N n2 with
    | some i, some j => if (decide (n3 = n) && isLocal q.sc n && isLocal q.sc n2 && !odd n && !odd c2 && glB q.sc c2 && (q.g.cls c2).isSome && decide (i ≠ j)) = true then .trk (ss body) c2 i j else .bad
    | _, _ => .bad)
  | _ => .bad
end
def cS (e : Cc → Expr → E) (q : Cc) (cl : List Str) : Nat → Stmt → S
  | 0, _ => .bad
  | n + 1, st => cStepS e (fun l => l.map (cS e q cl n)) q cl st
section
variable {γ : Nm} {c : Cz} {k : Nat} {X : L2.Cx} {q : Cc} {e : Cc → Expr → E} {cl : List Str}
theorem doc_ok {x : Str} {j p p2} : SS X γ c (.Expr (.Constant (.str x) j p) p2) .pass := fun Wx tk n => ps_doc.weak fun E σ H ⟨W, ρ, m, r, hW, hr, h, out⟩ => by
  simp only [exec, Option.some.injEq] at h
  subst h
  exact out σ H W (Wd.leS_refl n W) hW hr
theorem sa_bad {i : Nat} {st : Stmt} : SA X γ c i st .bad := fun Wx tk => ⟨fun pins s σ H D I ⟨W, ρ, m, r, hW, hr, e1, out⟩ => by rw [ev_bad] at e1; cases e1⟩
theorem sa_lc (hf : Told γ c k e) (hq : CcOk X γ c k q) {i : Nat} {nm : Str} {elt : Expr} {gs : List Comprehension} {scope : Scope} {p cp spos : Pos} (hN : X.N[i]? = some nm) (hl : isLocal q.sc nm = true) (hsw : swapsWith (.ListComp elt gs scope cp) (some (.Name nm p)) spos.line X.env = pure true) :
    SA X γ c i (.Assign [.Name nm p] (.ListComp elt gs scope cp) spos) (cLC e q elt gs scope) := by
  unfold cLC
  split
  · rename_i tg it ifs
    split
    · rename_i t ht
      split
      · rename_i hc
        simp only [Bool.and_eq_true, List.all_eq_true, decide_eq_true_eq] at hc
        obtain ⟨⟨h1, h2⟩, h3⟩ := hc
        have ok : BlkOk X.N X.env.scope scope (ownOf q.N scope) := by rw [hq.N, hq.sc]; exact blkOk_by h1
        have hb := fun s H C cl fp => hq.blk s H scope C cl fp
        have hl' : X.env.scope.names.lookup nm = some .local := by rw [hq.sc]; exact isLocal_ok hl
        split
        · exact sa_cmpr hq.ok.calm hq.ok.nd hN hl' hsw (cI_ok hf hq) ok h2 (fun s H C cl fp => cT_ok (hb s H C cl fp) ht) (fun s H C cl fp => scs_nil) (fun s H C cl fp => (hf _ _ (hb s H C cl fp) elt).1) (notSet_ok h3)
        · rename_i y
          exact sa_cmpr hq.ok.calm hq.ok.nd hN hl' hsw (cI_ok hf hq) ok h2 (fun s H C cl fp => cT_ok (hb s H C cl fp) ht) (fun s H C cl fp => scs_one (hf _ _ (hb s H C cl fp) y).2) (fun s H C cl fp => (hf _ _ (hb s H C cl fp) elt).1) (notSet_ok h3)
        · exact sa_bad
      · exact sa_bad
    · exact sa_bad
  · exact sa_bad
theorem put_ok {i : Nat} {st : Stmt} {nm : Str} {a : E} (h : SA X γ c i st a) : SS X γ c st (if nm ∈ cl then .cell i a else .set i a) := by
  split
  · exact s_cell h
  · exact s_set h
theorem cStepS_ok {ss : List Stmt → List S} (hf : Told γ c k e) (hq : CcOk X γ c k q) (hk : X.env.scope.kind = .function) (hp : PassesOwn (model X.prog X.w) X.A X.env X.xe) (hs : ∀ l, SSs X γ c l (ss l)) (hst : X.stack = X.env :: X.outer) (hfr : X.env.frame = some X.env.locals) (hex : X.ex = []) (hs2 : ∀ pn xe, PassesOwn (model X.prog X.w) X.A X.env xe → ∀ l, SSs (X.tr pn xe) γ c l (ss l)) (st : Stmt) : SS X γ c st (cStepS e ss q cl st) := by
  have H := fun y => hf X q hq y
  have hkq : q.sc.kind = .function := by rw [← hq.sc]; exact hk
  unfold cStepS
  split
  · rename_i nm p x pos
    split
    · rename_i i hi
      obtain ⟨nm', p', e1, a1, a2, a3⟩ := nameIx_ok hq hi
      cases e1
      have sw := swV_ok (env := X.env) (nm := nm) (p := p) (x := x) (l := pos.line) hk
      rw [hq.sc] at sw
      split
      · rename_i hsw
        rw [hsw] at sw
        split
        · rename_i elt gs scope cp
          split
          · exact put_ok (sa_lc hf hq a1 ‹_› sw)
          · exact s_bad
        · exact s_bad
      · rename_i hsw
        rw [Bool.not_eq_true] at hsw
        rw [hsw] at sw
        exact put_ok (sa_plain hq.ok.nd a1 a2 (H x).1 sw a3)
    · exact s_bad
  · rename_i ts k1 tp vs k2 vp pos
    split
    · rename_i is hi
      split
      · rename_i hc
        rw [Bool.and_eq_true, decide_eq_true_eq] at hc
        have hz : is.length ≤ sizeLine := Nat.le_trans hc.2 (by decide)
        have so : swapsWithSole [.Tuple ts k1 tp] (.Tuple vs k2 vp) pos.line X.env = pure false := rfl
        split
        · rename_i hw
          rw [← hq.sc] at hw
          exact s_parN hq.ok.calm hq.ok.nd hz (nameIxs_ok hq hi) (sf_map hf hq hc.1) so (swN_ok hk hw)
        · rename_i ns hw
          rw [← hq.sc] at hw
          split
          · rename_i h2
            simp only [Bool.and_eq_true, decide_eq_true_eq] at h2
            obtain ⟨⟨h3, h4⟩, h5⟩ := h2
            refine s_parS hq.ok.calm hq.ok.nd (l := ns.zip is) ?_ (List.map_snd_zip (by omega)) (List.map_fst_zip (by omega)) h5 (fun p hp => ?_) (sf_map hf hq hc.1) so (swN_ok hk hw)
            · rw [List.length_zip]; omega
            · have := List.all_eq_true.mp h3 p hp
              rw [Bool.and_eq_true, decide_eq_true_eq] at this
              exact ⟨by rw [hq.N]; exact this.1, by rw [hq.sc]; exact isLocal_ok this.2⟩
          · exact s_bad
        · exact s_bad
      · exact s_bad
    · split
      · rename_i ds hd hw
        rw [← hq.sc] at hw
        exact s_setd (H (.Tuple vs k2 vp)).1 (sg_deep hq.ok.nd hq.ok.calm (deepIxs_ok hq hd)) rfl (swN_ok hk hw) rfl
      · exact s_bad
  · rename_i ts k1 tp x pos hx
    split
    · rename_i is hi
      refine s_sets (H x).1 (sg_many hq.ok.nd hq.ok.calm (nameIxs_ok hq hi)) (show swapsWith x (some (.Tuple ts k1 tp)) pos.line X.env = pure false from sw_other fun _ _ h => by cases h) ?_ rfl
      cases x <;> first | rfl | exact absurd rfl (hx _ _ _)
    · exact s_bad
  · rename_i nm p y ap x pos
    split
    · exact s_bad
    rename_i hc
    rw [Bool.not_eq_true, Bool.or_eq_false_iff, Bool.or_eq_false_iff, Bool.not_eq_false', Bool.not_eq_false'] at hc
    obtain ⟨o1, o2, _⟩ := odd_ok hc.1.1
    have hpl := hc.2
    split
    · rename_i i hi
      refine s_sub (by rw [hq.N]; exact ixOf_at hi) (by rw [hq.sc]; exact visB_ok hc.1.2) o1 o2 (H x).1 (H y).1 (show swapsWith x (some (.Subscript (.Name nm p) y ap)) pos.line X.env = pure false from sw_other fun _ _ h => by cases h) ?_ fun v => by cases y <;> first | rfl | cases hpl
      cases x <;> rfl
    · exact s_bad
  · rename_i nm p x pos
    split
    · rename_i i hi
      obtain ⟨nm', p', e1, a1, a2, a3⟩ := nameIx_ok hq hi
      cases e1
      exact s_augA hq.ok.nd a1 a2 (H x).1 a3
    · exact s_bad
  · rename_i nm p x pos
    split
    · rename_i i hi
      obtain ⟨nm', p', e1, a1, a2, a3⟩ := nameIx_ok hq hi
      cases e1
      exact s_augS hq.ok.nd a1 a2 (H x).1 a3
    · exact s_bad
  · rename_i nm p m ap x cp p2
    split
    · exact s_bad
    rename_i hc
    rw [Bool.not_eq_true, Bool.or_eq_false_iff, Bool.or_eq_false_iff, Bool.or_eq_false_iff, Bool.not_eq_false', Bool.not_eq_false', Bool.not_eq_false'] at hc
    obtain ⟨⟨⟨c1, c2⟩, c3⟩, c4⟩ := hc
    obtain ⟨o1, o2, _⟩ := odd_ok c1
    have few : ((backTo cp (starEach [x] X.env)).all (fun x => !x.1) && (backToKw cp (keywordEach [] X.env)).all (fun x => x.1.isSome) && decide ([x].length + ([] : List Keyword).length + (if ([] : List Keyword).isEmpty then 0 else 1) < 30)) = true := by
      rw [star_cons c3]; rfl
    split
    · rename_i i hi
      split
      · rename_i em
        subst em
        exact s_app (by rw [hq.N]; exact ixOf_at hi) (by rw [hq.sc]; exact visB_ok c2) o1 o2 (H x).1 rfl few c4 (star_cons c3)
      · split
        · rename_i em
          subst em
          exact s_ext (by rw [hq.N]; exact ixOf_at hi) (by rw [hq.sc]; exact visB_ok c2) o1 o2 (H x).1 rfl few c4 (star_cons c3)
        · exact s_bad
    · exact s_bad
  · exact doc_ok
  · rename_i x pos _ _
    split
    · exact s_ex (H x).1 (sw_drop ‹_›)
    · exact s_bad
  · exact s_ite (H _).2 (hs _) (hs _)
  · exact s_whl hp (H _).2 (hs _)
  · rename_i tg it b pos
    split
    · rename_i t ht
      split
      · exact s_for hp hq.ok.calm (cI_ok hf hq) (cT_ok hq ht) (hs _) (notSet_ok ‹_›)
      · exact s_bad
    · exact s_bad
  · exact s_ret (H _).1
  · exact s_retn
  · exact s_brk
  · exact s_pass
  · rename_i nm p x pos p2
    split
    · exact s_bad
    rename_i hc
    rw [Bool.not_eq_true, Bool.or_eq_false_iff, Bool.or_eq_false_iff, Bool.or_eq_false_iff, Bool.not_eq_false', Bool.not_eq_false', Bool.not_eq_false'] at hc
    obtain ⟨⟨⟨c1, c2⟩, c3⟩, c4⟩ := hc
    obtain ⟨o1, o2, _⟩ := odd_ok c1
    rw [hq.g] at c4
    obtain ⟨ps, hps⟩ := Option.isSome_iff_exists.mp c4
    obtain ⟨C, T⟩ := hq.ok.cls nm ps hps
    exact s_rse hq.ok.calm T hq.ok.room (H x).1 (gl_ok hq c2) o1 (star_cons c3)
  · rename_i body c2 np n n2 p2 n3 p3 p4 pos' pos
    split
    · rename_i i j hi hj
      split
      · rename_i hc
        simp only [Bool.and_eq_true, decide_eq_true_eq, Bool.not_eq_true'] at hc
        obtain ⟨⟨⟨⟨⟨⟨⟨rfl, h2⟩, h3⟩, h4⟩, h5⟩, h6⟩, h7⟩, h8⟩ := hc
        obtain ⟨o1, o2, _⟩ := odd_ok h4
        obtain ⟨o3, _, _⟩ := odd_ok h5
        have k1 : X.env.kindOf n3 = some .local := by show X.env.scope.names.lookup n3 = _; rw [hq.sc]; exact isLocal_ok h2
        have k2 : X.env.kindOf n2 = some .local := by show X.env.scope.names.lookup n2 = _; rw [hq.sc]; exact isLocal_ok h3
        exact s_trk hq.ok hst hfr (by rw [hq.N]; exact ixOf_at hi) (by rw [hq.N]; exact ixOf_at hj) k1 k2 hk h8 ⟨o1, o2⟩ hex (gl_ok hq h6) o3 (by rw [← hq.g]; exact h7) fun pn xe ps => hs2 pn xe ps body
      · exact s_bad
    · exact s_bad
  · exact s_bad
theorem sss_map {s : Stmt → S} (h : ∀ st, SS X γ c st (s st)) : ∀ l, SSs X γ c l (l.map s)
  | [] => ss_nil
  | st :: l => ss_cons (h st) (sss_map h l)
theorem cS_ok (hf : Told γ c k e) : ∀ (n : Nat) {X : L2.Cx}, CcOk X γ c k q → X.env.scope.kind = .function → PassesOwn (model X.prog X.w) X.A X.env X.xe → X.stack = X.env :: X.outer → X.env.frame = some X.env.locals → X.ex = [] → ∀ st, SS X γ c st (cS e q cl n st)
  | 0, X, _, _, _, _, _, _, st => s_bad
  | n + 1, X, hq, hk, hp, h1, h2, h3, st => cStepS_ok hf hq hk hp (fun l => sss_map (cS_ok hf n hq hk hp h1 h2 h3) l) h1 h2 h3 (fun pn xe ps l => sss_map (cS_ok hf n (X := X.tr pn xe) hq.tr hk ps h1 h2 h3) l) st
end
/-- a def's body told -/
def tell (g : Gz) (bl N cl : List Str) (scope : Scope) (body : List Stmt) : List S := body.map (cS (cE 40) ⟨N, scope, fun _ => true, g, bl⟩ cl 20)
theorem tell_ok {γ : Nm} {c : Cz} {k : Nat} {X : L2.Cx} {bl cl : List Str} {body : List Stmt} (o : Ok X γ c k) (hfn : ∀ x, X.fn x = true) (hbl : ∀ x ∈ bl, X.mg x = none) (hfad : ∀ f a, γ.fad f = some a → ∃ ps, c.g.par f = some ps) (hcad : ∀ n C, γ.cad n = some C → ∃ ps, c.g.cls n = some ps) (h1 : X.stack = X.env :: X.outer) (h2 : X.env.frame = some X.env.locals) (h3 : X.ex = [])
    (hk : X.env.scope.kind = .function) (hp : PassesOwn (model X.prog X.w) X.A X.env X.xe) : SSs X γ c body (tell c.g bl X.N cl X.env.scope body) :=
  sss_map (cS_ok (cE_ok 40) 20 ⟨o, rfl, rfl, fun x _ => hfn x, rfl, hbl, hfad, hcad⟩ hk hp h1 h2 h3) body
end PY

set_option Elab.async false
set_option linter.all false
set_option maxRecDepth 100000
/-! PyCt -/
namespace PY
open PySem PySem.Spec PyProof.Rows L2
def iniAd (K : PySem.W.Frag) (C : Addr) : Addr := match PySem.W.findIn K (.ref C) "__init__" with
  | some (some (.ref a)) => a
  | _ => 0
def ownAd (K : PySem.W.Frag) (f : Addr) : Addr := match K.lookup f with
  | some ⟨_, _, .func fd, _⟩ => (match fd.closure with
    | [(_, cc)] => (match K.lookup cc with
      | some ⟨_, _, .cell (some (.ref D)), _⟩ => D
      | _ => 0)
    | _ => 0)
  | _ => 0
/-- a function's data are those of the __init__ that is asked -/
def weFd (fd : FuncData) : Bool := match fd with
  | ⟨nm, qn, ⟨[], [⟨a1, none, p1⟩, ⟨a2, none, p2⟩], none, [], [], none, []⟩, .stmts [.Expr (.Call (.Attribute (.Call (.Name s0 q0) [] [] q1) i0 q2) [.Constant (.str z) 0 q3] [] q4) q5, .Assign [.Attribute (.Name s1 q6) v0 q7] (.Name v1 q8) q9],
      ⟨.function, [(n1, .local), (n2, .local), (n3, .free), (n4, .globalImplicit)], false, false, []⟩, gl, [(c0, cc)], .none, .none, doc, pm, an, .ref cda, ct, bi⟩ =>
    decide (nm = "__init__") && decide (qn = "WormsError.__init__") && decide (a1 = "self") && decide (a2 = "value") && decide (s0 = "super") && decide (i0 = "__init__") && decide (s1 = "self") && decide (v0 = "value") && decide (v1 = "value") &&
      decide (n1 = "self") && decide (n2 = "value") && decide (n3 = "__class__") && decide (n4 = "super") && decide (gl = mainGlobals) && decide (c0 = "__class__") && decide (bi = builtinsNs) && decide (q2.endLine = q4.line)
  | _ => false
theorem weFd_ok {fd : FuncData} (h : weFd fd = true) : ∃ (doc pm : Value) (an : Option Addr) (cda : Addr) (ct : Value) (cc : Addr) (p1 p2 : Pos) (z : Str) (q : Nat → Pos),
    ((q 2).endLine == (q 4).line) = true ∧ fd = PySem.W.ksFn "__init__" "WormsError.__init__" (wA p1 p2) (wB z q) wS .none .none doc pm an (.ref cda) ct cc ∧ fd.code = .ref cda ∧ fd.closure = [(("__class__" : Str), cc)] := by
  unfold weFd at h
  split at h
  · rename_i nm qn a1 p1 a2 p2 s0 q0 q1 i0 q2 z q3 q4 q5 s1 q6 v0 q7 v1 q8 q9 n1 n2 n3 n4 gl c0 cc doc pm an cda ct bi
    simp only [Bool.and_eq_true, decide_eq_true_eq] at h
    obtain ⟨⟨⟨⟨⟨⟨⟨⟨⟨⟨⟨⟨⟨⟨⟨⟨rfl, rfl⟩, rfl⟩, rfl⟩, rfl⟩, rfl⟩, rfl⟩, rfl⟩, rfl⟩, rfl⟩, rfl⟩, rfl⟩, rfl⟩, rfl⟩, rfl⟩, rfl⟩, hl⟩ := h
    exact ⟨doc, pm, an, cda, ct, cc, p1, p2, z, fun i => [q0, q1, q2, q3, q4, q5, q6, q7, q8, q9].getD i q0, by simpa using hl, rfl, rfl, rfl⟩
  · cases h
def weFnB (K : PySem.W.Frag) (fI D : Addr) (file : Str) : Bool := match K.lookup fI with
  | some ⟨_, _, .func fd, _⟩ => weFd fd && (match fd.closure with
      | [(_, cc)] => (match K.lookup cc with
        | some ⟨_, _, .cell (some (.ref D')), _⟩ => decide (D' = D)
        | _ => false)
      | _ => false) && (match fd.code with
      | .ref cda => PySem.W.codeIn K (.ref cda) "WormsError.__init__" && (match K.lookup cda with
        | some ⟨_, _, .fields vs, _⟩ => (match (vs[2]? : Option Value) with
          | some (.str f0 _) => decide (f0 = file)
          | _ => false)
        | _ => false)
      | _ => false)
  | _ => false
def clsKB (K : PySem.W.Frag) (C : Addr) (file : Str) : Bool :=
  PySem.W.excInitIn K C [.type "ValueError", .type "Exception", .type "BaseException", .type "object"] "ValueError.__new__" &&
  (match PySem.W.clsIn K C with
    | some cd => PySem.HandSPX.refsVE cd.mro && cd.hasDict
    | none => false) &&
  decide (PySem.W.findIn K (.ref C) "__setattr__" = some (some (.builtin "object.__setattr__"))) && decide (PySem.W.findIn K (.ref C) "value" = some none) &&
  decide (PySem.W.findIn K (.ref C) "__init__" = some (some (.ref (iniAd K C)))) && decide (PySem.W.typeIn K (.ref (iniAd K C)) = some (.type "function")) &&
  decide (PySem.W.ks_superIn K C (ownAd K (iniAd K C)) "__init__" = some (some (.builtin "ValueError.__init__"))) && decide (PySem.W.subIn K (.ref C) (.type "ValueError") = some true) &&
  decide (PySem.W.mroIn K C (.ref (ownAd K (iniAd K C))) = some true) && decide (PySem.W.nsIn K cStatics "thirdparty.any" = some none) && (PySem.W.clsIn K (ownAd K (iniAd K C))).isSome && weFnB K (iniAd K C) (ownAd K (iniAd K C)) file &&
  PySem.W.keepIn K (.ref C) && decide (PySem.W.subIn K (.ref C) (.type "BaseException") = some true) && decide (PySem.W.typeIn K (.ref C) = some (.type "type")) && (PySem.W.clsIn K C).isSome &&
  decide (PySem.W.findIn K (.ref C) "__getattribute__" = some (some (.builtin "BaseException.__getattribute__"))) && decide (PySem.W.findIn K (.ref C) "__getattr__" = some none) &&
  decide (PySem.W.findIn K (.ref C) "__class__" = some (some (.builtin "object.__class__"))) && PySem.W.hasDictIn K C &&
  decide (PySem.W.specialIn K (.builtin "object.__class__") "__get__" = some (some (.builtin "getset_descriptor.__get__"))) && decide (PySem.W.takesIn K (.builtin "object.__class__") = some true) &&
  decide (PySem.W.mroIn K C (.type "object") = some true) && (["NoneType", "bool", "int", "str", "tuple", "list"].all fun t => decide (PySem.W.kitOne K (.type t) (.ref C) = some false))
theorem clsKB_ok {K : PySem.W.Frag} {C : Addr} {file : Str} (h : clsKB K C file = true) : ClsK K C (ownAd K (iniAd K C)) (iniAd K C) file := by
  unfold clsKB at h
  simp only [Bool.and_eq_true, decide_eq_true_eq, List.all_eq_true] at h
  obtain ⟨⟨⟨⟨⟨⟨⟨⟨⟨⟨⟨⟨⟨⟨⟨⟨⟨⟨⟨⟨⟨⟨⟨a1, a2⟩, a3⟩, a4⟩, a5⟩, a6⟩, a7⟩, a8⟩, a9⟩, a10⟩, a11⟩, a12⟩, b1⟩, b2⟩, b3⟩, b4⟩, b5⟩, b6⟩, b7⟩, b8⟩, b9⟩, b10⟩, b11⟩, b12⟩ := h
  refine ⟨⟨a1, ?_, a3, a4, a5, a6, a7, a8, a9, a10, Option.isSome_iff_exists.mp a11, ?_⟩, b1, b2, b3, b4, b5, b6, b7, b8, b9, b10, b11, b12⟩
  · split at a2
    · rename_i cd hcd
      rw [Bool.and_eq_true] at a2
      exact ⟨cd, hcd, a2.1, a2.2⟩
    · cases a2
  · unfold weFnB at a12
    split at a12
    · rename_i oc od fd osl lk
      simp only [Bool.and_eq_true] at a12
      obtain ⟨⟨w1, w2⟩, w3⟩ := a12
      obtain ⟨doc, pm, an, cda, ct, cc, p1, p2, z, q, hl, e1, e2, e3⟩ := weFd_ok w1
      rw [e3] at w2
      rw [e2] at w3
      simp only at w2 w3
      split at w2
      · rename_i cl cld D' csl hcc
        rw [decide_eq_true_eq] at w2
        subst w2
        rw [Bool.and_eq_true] at w3
        obtain ⟨w4, w5⟩ := w3
        split at w5
        · rename_i ccl cdd vs ccs hcda
          split at w5
          · rename_i f0 tf hvs
            rw [decide_eq_true_eq] at w5
            subst w5
            exact ⟨oc, od, doc, pm, an, cda, ct, cc, osl, p1, p2, z, q, vs, tf, ccl, cl, cdd, cld, ccs, csl, hl, by rw [← e1]; exact lk, w4, hcda, hvs, hcc⟩
          · cases w5
        · cases w5
      · cases w2
    · cases a12
/-- the class that the name of the module stands for -/
def clsAd (K : PySem.W.Frag) (n : Str) : Addr := He.ga K n
def clsB (K : PySem.W.Frag) (file : Str) (l : List (Str × List Str)) : Bool :=
  l.all fun p => (He.Fa.glo p.1).ok K && clsKB K (clsAd K p.1) file && l.all fun p2 => decide (PySem.W.exmOne K (.ref (clsAd K p.1)) (.ref (clsAd K p2.1)) = some (decide (p2.1 ∈ p.2))) && decide (PySem.W.kitOne K (.ref (clsAd K p.1)) (.ref (clsAd K p2.1)) = some (decide (p2.1 ∈ p.2)))
end PY

set_option Elab.async false
set_option linter.all false
set_option maxRecDepth 100000
/-! PyT -/
namespace PY
open PySem PySem.Spec PyProof.Rows L2

/-! PyT -/
mutual
/-- the value u, as K holds it, is d -/
def repB (K : PySem.W.Frag) : Nat → D → Value → Bool
  | 0, _, _ => false
  | n + 1, d, u => match d, u with
    | .non, .none => true
    | .bl b, .bool c => b == c
    | .int i, .int j _ => decide (i = j)
    | .str x, .str y _ => decide (x = y)
    | .tup xs, .ref a => (match K.lookup a with
      | some ⟨.type c, _, .seq its _, _⟩ => decide (c = "tuple") && decide (its.size ≤ sizeLine) && repsB K n xs its.toList
      | _ => false)
    | _, _ => false
def repsB (K : PySem.W.Frag) : Nat → List D → List Value → Bool
  | 0, _, _ => false
  | n + 1, d, u => match d, u with
    | [], [] => true
    | d :: ds, u :: us => repB K n d u && repsB K n ds us
    | _, _ => false
end
mutual
theorem repB_ok {K : PySem.W.Frag} {γ : Nm} : ∀ (n : Nat) {d : D} {u : Value}, repB K n d u = true → ∃ v, RelV v u ∧ ∀ W, Rep K γ W d v
  | 0, _, _, h => by cases h
  | n + 1, d, u, h => by
    cases d <;> cases u <;> simp only [repB] at h <;> first | (cases h; done) | skip
    case non.none => exact ⟨.non, rfl, fun W => by simp [Rep]⟩
    case bl.bool b c => exact ⟨.bl b, by rw [eq_of_beq h]; rfl, fun W => by simp [Rep]⟩
    case int.int i j t => exact ⟨.int i, ⟨t, by rw [of_decide_eq_true h]⟩, fun W => by simp [Rep]⟩
    case str.str i j t => exact ⟨.str i, ⟨t, by rw [of_decide_eq_true h]⟩, fun W => by simp [Rep]⟩
    case tup.ref xs a =>
      split at h
      · rename_i c od its m sl hk
        simp only [Bool.and_eq_true, decide_eq_true_eq] at h
        obtain ⟨⟨rfl, h2⟩, h3⟩ := h
        obtain ⟨vs, rv, q⟩ := repsB_ok (γ := γ) n h3
        exact ⟨.ref a, rfl, fun W => by
          simp only [Rep]
          exact ⟨a, vs, rfl, .inr ⟨_, its, m, hk, rfl, rfl, h2, rv⟩, q W⟩⟩
      · cases h
theorem repsB_ok {K : PySem.W.Frag} {γ : Nm} : ∀ (n : Nat) {d : List D} {u : List Value}, repsB K n d u = true → ∃ v, Vals v u ∧ ∀ W, Reps K γ W d v
  | 0, _, _, h => by cases h
  | n + 1, d, u, h => by
    cases d with
    | nil =>
      cases u with
      | nil => exact ⟨[], .nil, fun W => by simp [Reps]⟩
      | cons _ _ => simp [repsB] at h
    | cons d ds =>
      cases u with
      | nil => simp [repsB] at h
      | cons u us =>
        simp only [repsB, Bool.and_eq_true] at h
        obtain ⟨v, r1, q1⟩ := repB_ok (γ := γ) n h.1
        obtain ⟨vs, r2, q2⟩ := repsB_ok (γ := γ) n h.2
        exact ⟨v :: vs, .cons r1 r2, fun W => reps_cons (q1 W) (q2 W)⟩
end
/-- the module's name x stands for d -/
def globB (K : PySem.W.Frag) (p : Str × D) : Bool := match PySem.W.nsIn K mainGlobals p.1 with
  | some (some u) => repB K 30 p.2 u
  | _ => false
def noLists (K : PySem.W.Frag) : Bool := K.all fun p => match p.2.cls with
  | .type c => decide (c ≠ "list")
  | _ => true
theorem mem_look {α : Type} : ∀ {l : List (Addr × α)} {a : Addr} {o : α}, l.lookup a = some o → (a, o) ∈ l
  | [], _, _, h => by cases h
  | (b, u) :: l, a, o, h => by
    rw [List.lookup_cons] at h
    by_cases e : a = b
    · subst e
      rw [beq_self_eq_true] at h
      cases h
      exact List.mem_cons_self
    · rw [show (a == b) = false from by simpa using e] at h
      exact List.mem_cons_of_mem _ (mem_look h)
theorem noLists_ok {K : PySem.W.Frag} (h : noLists K = true) {a : Addr} {o : Obj} (e : K.lookup a = some o) : o.cls ≠ .type "list" := by
  intro z
  have := List.all_eq_true.mp h (a, o) (mem_look e)
  simp [z] at this

/-! PyT -/
/-- a module, as it is read off its top -/
structure Mo where
  defs : List He.DefD
  free : List Str
  glob : List (Str × D)
  file : Str
  cls : List (Str × List Str)
abbrev AlP : Type := Bool × List He.FnW
def Mo.ok (M : Mo) (K : PySem.W.Frag) : Bool :=
  (M.defs.all fun d => (He.Fa.glo d.name).ok K && d.ok K) && (M.free.all fun x => (He.Fa.free x).ok K) && M.glob.all (globB K) && noLists K && decide ((M.defs.map fun d => He.ga K d.name).Nodup) && clsB K M.file M.cls
def Mo.obs (M : Mo) (K : PySem.W.Frag) : AlP := (M.ok K, M.defs.map fun d => He.fnW K d.at_)
def Mo.val (M : Mo) : AlP := (true, M.defs.map He.DefD.val)
def asP (M : Mo) (g : Addr → Option Obj) (n : Nat) : List Addr := match M.cls with
  | [] => He.asD g n
  | _ => cStatics :: He.asD g n
def Mo.obsG (M : Mo) (n : Nat) (g : Addr → Option Obj) : AlP := M.obs (He.frG g (asP M g n))
def hookP (n : Nat) (M : Mo) : PySem.W.Hook where
  α := AlP
  obs := fun s => M.obsG n s.heap.get?
  val := fun _ => M.val
  says := fun _ h => ∃ K : PySem.W.Frag, K.In h ∧ M.obs K = M.val
  of := fun _ _ e => ⟨_, He.frG_in, e⟩
  keeps := fun _ _ _ ⟨K, hK, c⟩ k => ⟨K, PySem.W.Frag.In.keeps hK k, c⟩
theorem obsG_eq {n : Nat} {M : Mo} {g : Addr → Option Obj} {s : Shared} (h : ∀ a, g a = s.heap.get? a) : M.obsG n g = (hookP n M).obs s := by
  have e : g = s.heap.get? := funext h
  rw [e] <;> rfl

/-! PyT -/
theorem law_callG {P : Program} {w : World} {K : PySem.W.Frag} {mg mb : Str → Option Value} {k : Nat} {fa a : Addr} {fd : FuncData} {x : Str} {sp : Sp} {s₁ : Shared} {vs : List Value} {ns : List Int}
    (KX : K.In s₁.heap) (nl : noLists K = true) (hns : s₁.heap.Ns mainGlobals mg) (hb : s₁.heap.Ns builtinsNs mb) (hbb : ∀ x : Str, x ≠ "__name__" → mb x = bootBuiltins x) (hlim : s₁.heap.NoLimit) (hg : s₁.gens = #[])
    (ha : s₁.heap.get? a = some { cls := .type "list", data := .seq vs.toArray }) (hi : IntsAre vs ns) (hl : ns.length ≤ sizeLine) (hr : Room k callerA)
    (F : ∀ base : Heap, K.In base → base.Ns mainGlobals mg → FnG P w K mg base k fa fd [x] sp) (hbind : ∀ (s : Shared) (u : Value), BindsTo s fd ⟨[u], []⟩ [(x, u)])
    (hsp : ∀ H : Hp, (∀ b o, H b = some o → ∃ ob xs, o = .frz ob (.lst xs)) → (∃ ob, H a = some (.frz ob (.lst (ns.map V.int)))) → sp [.ref a] H (fun v _ => v = .bl true) fun _ _ _ => False) :
    codeAny (model P w) callerA (.call (.ref fa) ⟨[.ref a], []⟩) (fun r s' => r = .ok (.ret (.bool true)) ∧ OldK s₁.heap s'.heap ∧ s'.os = s₁.os ∧ AllBare s'.gens) s₁ := by
  have rv := vals_ints hi
  have hk : K.lookup a = none := by
    cases e : K.lookup a with
    | none => rfl
    | some o =>
      have e2 := KX a o e
      rw [ha] at e2
      cases e2
      exact absurd rfl (noLists_ok nl e)
  let H : Hp := fun b => if b = a then some (.frz { cls := .type "list", data := .seq vs.toArray } (.lst (ns.map V.int))) else none
  have Ha : H a = some (.frz { cls := .type "list", data := .seq vs.toArray } (.lst (ns.map V.int))) := if_pos rfl
  have Hn : ∀ {b : Addr}, b ≠ a → H b = none := fun hb => if_neg hb
  have Hs : ∀ {b : Addr} {o : HO}, H b = some o → b = a ∧ o = .frz { cls := .type "list", data := .seq vs.toArray } (.lst (ns.map V.int)) := fun {b o} e => by
    by_cases hb : b = a
    · subst hb; rw [Ha] at e; cases e; exact ⟨rfl, rfl⟩
    · rw [Hn hb] at e; cases e
  have hok : HOk P w H s₁.heap := fun b u e => by
    obtain ⟨rfl, rfl⟩ := Hs e
    exact ⟨ha, by rw [List.length_map]; exact hl, vs, _, rv, ha⟩
  have dict : ∀ {b : Addr} {o : Obj} {es : Array DictEntry} {ep : Nat}, s₁.heap.get? b = some o → o.data = .dict es ep → H b = none := fun {b o es ep} e d => by
    refine Hn fun hb => ?_
    subst hb
    rw [ha] at e; cases e
    cases d
  have ns' : ∀ {b : Addr} {m : Str → Option Value}, s₁.heap.Ns b m → (hidT s₁.heap H).Ns b m := fun {b m} ⟨o, es, ep, e, d, r⟩ => ⟨o, es, ep, hidT_get e (dict e d), d, r⟩
  have inB : K.In (hidT s₁.heap H) := fun b o e => hidT_get (KX b o e) (Hn fun hb => by rw [hb, hk] at e; cases e)
  have mod : Mod K mg (hidT s₁.heap H) := ⟨inB, ns' hns, ⟨mb, ns' hb, hbb⟩, let ⟨mc, h1, h2⟩ := hlim; ⟨mc, ns' h1, h2⟩⟩
  have e0 : Env0 P w K mg (hidT s₁.heap H) callerA [] s₁ H := ⟨rfl, mod, fun b o e => of_hidT e, Nat.le_of_eq (hidT_size _ _), trivial, (fun b z => absurd (show b ∈ ([] : List Addr) from z) (by simp)), hok, .of_eq hg⟩
  refine codeAny_mono ((F _ inB (ns' hns)).run callerA [] s₁ H ⟨[.ref a], []⟩ [.ref a] [.ref a] _ _ hr rfl e0 (hbind s₁ (.ref a)) (.cons rfl .nil) (hsp H (fun b o e => ⟨_, _, (Hs e).2⟩) ⟨_, Ha⟩)) fun r s' h => ?_
  cases r with
  | error e =>
    obtain ⟨_, _, _, _, _, _, _, _, _, _, _, _, z⟩ := h
    exact z.elim
  | ok fl =>
    cases fl with
    | next => exact False.elim h
    | brk => exact False.elim h
    | cont => exact False.elim h
    | ret u =>
      obtain ⟨v, H', os, bare, un, hok', r', q⟩ := h
      have q' : v = .bl true := q
      subst q'
      obtain rfl : u = Value.bool true := r'
      refine ⟨rfl, OldK.of_keep fun b o e => ?_, os, bare⟩
      by_cases hb : b = a
      · subst hb
        obtain ⟨e1, _⟩ := hok b _ Ha
        obtain ⟨e2, _⟩ := hok' b _ (un.frzs b _ _ Ha)
        rw [e] at e1; cases e1
        exact e2
      · exact un.keep b o e (Hn hb) (fun z => absurd (show b ∈ ([] : List Addr) from z) (by simp)) (by simp)
/-- the world of a script -/
theorem start_world {K : PySem.W.Frag} {γ : Nm} {H : Hp} {a : Addr} {ns : List Int} (hs : ∀ b o, H b = some o → ∃ ob xs, o = .frz ob (.lst xs)) (ha : ∃ ob, H a = some (.frz ob (.lst (ns.map V.int)))) :
    ∃ W, WOk K γ W [] H ∧ RepTs K γ W [.val (.lst (ns.map D.int))] [.ref a] := by
  refine ⟨⟨H, fun _ => none, fun _ => none⟩, ⟨fun b o e => e, fun b o e => ?_, fun n o e => by simp at e, fun n n' b e => (nomatch e), fun n b e => (nomatch e), fun b o e => (nomatch e)⟩, .ref a, [], rfl, ?_, rfl⟩
  · obtain ⟨ob, xs, rfl⟩ := hs b o e
    trivial
  · simp only [RepT, Rep]
    obtain ⟨ob, e⟩ := ha
    refine ⟨a, ns.map V.int, rfl, .inr ⟨ob, e⟩, ?_⟩
    clear e hs
    induction ns with
    | nil => simp [Reps]
    | cons n ns ih => exact reps_cons (by simp [Rep]) ih
/-! PyT -/
structure En where
  d : He.DefD
  N : List Str
  cl : List Str
  fd : Fd
def tabOf (l : List En) (glob : List (Str × D)) (cs : List (Str × List Str)) : Pr := ⟨fun f => (l.find? fun e => e.d.name == f).map (·.fd), fun x => glob.lookup x, fun n => cs.lookup n⟩
def moOf (l : List En) (bl : List Str) (glob : List (Str × D)) (file : Str) (cs : List (Str × List Str)) : Mo := ⟨l.map (·.d), bl, glob, file, cs⟩
def scopeB (N ps : List Str) (sc : Scope) : Bool :=
  (match sc.kind with | .function => true | _ => false) && !sc.isCoroutine && !sc.isGenerator && decide N.Nodup && decide (N.take ps.length = ps) && (ps.all fun x => locB sc x) && sc.names.all fun y => match y.2 with
    | .free => false
    | _ => true
def paramsB (p : Arguments) (ps : List Str) : Bool :=
  p.posonlyargs.isEmpty && decide (p.args.map (·.arg) = ps) && p.kwonlyargs.isEmpty && p.vararg.isNone && p.kwarg.isNone && decide ps.Nodup
theorem scopeB_ok {N ps : List Str} {sc : Scope} (h : scopeB N ps sc = true) : FnScope N ps sc := by
  unfold scopeB at h
  simp only [Bool.and_eq_true, decide_eq_true_eq, List.all_eq_true, Bool.not_eq_true'] at h
  obtain ⟨⟨⟨⟨⟨⟨h1, h2⟩, h3⟩, h4⟩, h5⟩, h6⟩, h7⟩ := h
  refine ⟨?_, h2, h3, h4, h5, fun x hx => locB_ok (h6 x hx), fun y hy e => ?_⟩
  · cases e : sc.kind <;> rw [e] at h1 <;> first | rfl | cases h1
  · have := h7 y hy
    rw [e] at this
    cases this
/-- what is asked of an entry -/
structure EnOk (g : Gz) (bl : List Str) (e : En) : Prop where
  b : (decide (e.d.at_ = (e.d.name, none)) && e.d.dfl.isEmpty && scopeB e.N e.fd.ps e.d.scope && paramsB e.d.params e.fd.ps && decide (e.fd.nv = e.N.length)) = true
  body : e.fd.body = tell g bl e.N e.cl e.d.scope e.d.body
section
variable {P : Program} {w : World} {K : PySem.W.Frag} {h : Heap} {mg : Str → Option Value} {l : List En} {bl : List Str} {glob : List (Str × D)} {file : Str} {cs : List (Str × List Str)}
theorem Mo.facts {M : Mo} (c : M.obs K = M.val) : (∀ d ∈ M.defs, (He.Fa.glo d.name).ok K = true ∧ d.ok K = true ∧ He.fnW K d.at_ = d.val) ∧ (∀ x ∈ M.free, (He.Fa.free x).ok K = true) ∧ (∀ p ∈ M.glob, globB K p = true) ∧ noLists K = true ∧ (M.defs.map fun d => He.ga K d.name).Nodup ∧ clsB K M.file M.cls = true := by
  have c1 : M.ok K = true := congrArg (fun z : AlP => z.1) c
  have c2 : M.defs.map (fun d => He.fnW K d.at_) = M.defs.map He.DefD.val := congrArg (fun z : AlP => z.2) c
  unfold Mo.ok at c1
  simp only [Bool.and_eq_true, List.all_eq_true, decide_eq_true_eq] at c1
  obtain ⟨⟨⟨⟨⟨h1, h2⟩, h3⟩, h4⟩, h5⟩, h6⟩ := c1
  refine ⟨fun d hd => ⟨(h1 d hd).1, (h1 d hd).2, ?_⟩, h2, h3, h4, h5, h6⟩
  obtain ⟨i, hi⟩ := List.mem_iff_getElem?.mp hd
  have e2 : (M.defs.map fun d => He.fnW K d.at_)[i]? = (M.defs.map He.DefD.val)[i]? := by rw [c2]
  rw [List.getElem?_map, List.getElem?_map, hi] at e2
  exact Option.some.inj e2
def nmOf (K : PySem.W.Frag) (l : List En) (cs : List (Str × List Str)) : Nm := ⟨fun n => if (cs.lookup n).isSome = true then some (clsAd K n) else none, fun f => if (l.find? fun e => e.d.name == f).isSome = true then some (He.ga K f) else none⟩
theorem find_name {f : Str} {e : En} (h : (l.find? fun e => e.d.name == f) = some e) : e ∈ l ∧ e.d.name = f := by
  refine ⟨List.mem_of_find?_eq_some h, ?_⟩
  have := List.find?_some h
  simpa using this
theorem nodup_map_inj {α β : Type} {g : α → β} : ∀ {t : List α}, (t.map g).Nodup → ∀ {x y : α}, x ∈ t → y ∈ t → g x = g y → x = y
  | [], _, _, _, h, _, _ => by cases h
  | z :: t, nd, x, y, hx, hy, e => by
    have nd' := List.nodup_cons.mp (by simpa using nd : (g z :: t.map g).Nodup)
    rcases List.mem_cons.mp hx with h1 | h1 <;> rcases List.mem_cons.mp hy with h2 | h2
    · rw [h1, h2]
    · refine absurd ?_ nd'.1
      rw [← h1, e]; exact List.mem_map_of_mem h2
    · refine absurd ?_ nd'.1
      rw [← h2, ← e]; exact List.mem_map_of_mem h1
    · exact nodup_map_inj nd'.2 h1 h2 e
theorem lookup_mem {α : Type} : ∀ {t : List (Str × α)} {n : Str} {d : α}, t.lookup n = some d → (n, d) ∈ t
  | [], _, _, h => by cases h
  | (x, y) :: t, n, d, h => by
    rw [List.lookup_cons] at h
    by_cases hx : n = x
    · subst hx
      rw [beq_self_eq_true] at h
      cases h
      exact List.mem_cons_self
    · rw [show (n == x) = false from by simpa using hx] at h
      exact List.mem_cons_of_mem _ (lookup_mem h)
/-- all defs of the row keep their promises -/
theorem row_ok (hfile : cs = [] ∨ ((P.main.file : Str) == file) = true ∧ (P.main.scope.names.lookup ("super" : Str)).isSome = false ∧ ("super" : Str) ∈ bl) (X : K.In h) (G : h.Ns mainGlobals mg) (c : (moOf l bl glob file cs).obs K = (moOf l bl glob file cs).val) (ok : ∀ e ∈ l, EnOk (tabOf l glob cs).g bl e) {base : Heap} (k : Nat) (f : Str) (fd : Fd) (hf : (tabOf l glob cs).fd f = some fd) :
    ∃ a fdt, DefAt P w K mg base (nmOf K l cs) k (callN (tabOf l glob cs) k) f a fdt fd.ps := by
  obtain ⟨c1, c2, c3, c4, c5, c6⟩ := Mo.facts c
  have par : ∀ f a, (nmOf K l cs).fad f = some a → ∃ ps, (tabOf l glob cs).g.par f = some ps := fun f a e => by
    simp only [nmOf] at e
    split at e
    · rename_i hs
      obtain ⟨e', he'⟩ := Option.isSome_iff_exists.mp hs
      exact ⟨e'.fd.ps, by simp [Pr.g, tabOf, he']⟩
    · cases e
  refine mod_ok (Pg := tabOf l glob cs) (tell := tell (tabOf l glob cs).g bl) ?_ ?_ ?_ ?_ ?_ k f fd hf
  · intro f fd hf
    simp only [tabOf, Option.map_eq_some_iff] at hf
    obtain ⟨e, he, rfl⟩ := hf
    obtain ⟨hm, rfl⟩ := find_name he
    obtain ⟨b, hbody⟩ := ok e hm
    simp only [Bool.and_eq_true, decide_eq_true_eq] at b
    obtain ⟨⟨⟨⟨b1, b2⟩, b3⟩, b4⟩, b5⟩ := b
    obtain ⟨f1, f2, f3⟩ := c1 e.d (List.mem_map_of_mem hm)
    obtain ⟨fdt, F⟩ := He.DefD.funD f3 f2
    obtain ⟨oc, od, dV, kV, doc, pm, an, cdv, ct, osl, rfl, lk, hcd, hD, hK⟩ := F.ex
    have edfl : e.d.dvs K = [] := by
      unfold He.DefD.dvs
      rw [List.isEmpty_iff.mp b2]; rfl
    have edV : dV = .none := by
      rcases hD with ⟨_, z⟩ | ⟨z, _⟩
      · exact z
      · exact absurd edfl z
    subst edV
    have ega : He.fAd K e.d.at_ = He.ga K e.d.name := by rw [b1]; rfl
    refine ⟨He.ga K e.d.name, _, ⟨He.glo_ok X G f1, by rw [← ega]; exact F.kp, ?_, ?_, oc, od, e.d.name, e.d.qual, e.d.params, e.d.body, e.d.scope, .none, kV, doc, pm, cdv, ct, an, osl, e.N, rfl, by rw [← ega]; exact lk, hcd, scopeB_ok b3, b5, e.cl, hbody⟩⟩
    · unfold paramsB at b4
      simp only [Bool.and_eq_true, decide_eq_true_eq, List.isEmpty_iff, Option.isNone_iff_eq_none] at b4
      obtain ⟨⟨⟨⟨⟨p1, p2⟩, p3⟩, p4⟩, p5⟩, p6⟩ := b4
      exact ⟨p1, p2, p3, p4, p5, rfl, p6⟩
    · simp only [nmOf, he, Option.isSome_some, if_true]
  · intro Y k cl body e1 e2 e3 e4 e5 e6 e7 e8 s1 s2 s3 o
    exact tell_ok (cl := cl) (body := body) o e6 (fun x hx => by rw [e4]; exact He.free_ok X G (c2 x hx)) par (fun n C e => by
      simp only [nmOf] at e
      split at e
      · rename_i hs
        exact Option.isSome_iff_exists.mp hs
      · cases e) s1 s2 s3 e7 e8
  · intro Y e1 e2 n d e
    have hm : (n, d) ∈ glob := lookup_mem e
    have g := c3 _ hm
    unfold globB at g
    split at g
    · rename_i u hu
      obtain ⟨v, r, q⟩ := repB_ok (γ := nmOf K l cs) 30 g
      exact ⟨u, v, by rw [e2]; exact PySem.W.mg_of X G hu, r, fun W => by rw [e1]; exact q W⟩
    · cases g
  · intro f g a e1 e2
    simp only [nmOf] at e1 e2
    split at e1 <;> split at e2 <;> first | (cases e1; done) | (cases e2; done) | skip
    rename_i h1 h2
    obtain ⟨x, hx⟩ := Option.isSome_iff_exists.mp h1
    obtain ⟨y, hy⟩ := Option.isSome_iff_exists.mp h2
    obtain ⟨mx, rfl⟩ := find_name hx
    obtain ⟨my, rfl⟩ := find_name hy
    cases e1
    have e2 := Option.some.inj e2
    have := nodup_map_inj (t := (moOf l bl glob file cs).defs) (g := fun d : He.DefD => He.ga K d.name) c5 (List.mem_map_of_mem mx) (List.mem_map_of_mem my) e2.symm
    rw [this]
  · intro n ps hn
    have hn' : cs.lookup n = some ps := hn
    have hm := lookup_mem hn'
    have c6' := c6
    unfold clsB at c6'
    simp only [moOf, List.all_eq_true, Bool.and_eq_true, decide_eq_true_eq] at c6'
    obtain ⟨⟨g1, g2⟩, g3⟩ := c6' (n, ps) hm
    rcases hfile with e | ⟨f1, f2, f3⟩
    · rw [e] at hn'; cases hn'
    refine ⟨clsAd K n, He.glo_ok X G g1, by simp [nmOf, hn'], ⟨file, _, _, clsKB_ok g2, f1⟩, f2, He.free_ok X G (c2 _ f3), fun n2 ps2 C2 h1 h2 => ?_⟩
    have hm2 := lookup_mem (show cs.lookup n2 = some ps2 from h1)
    have e2 : C2 = clsAd K n2 := by
      have := He.glo_ok X G (c6' (n2, ps2) hm2).1.1
      rw [h2] at this
      injection this with this
      injection this
    rw [e2]
    exact g3 (n2, ps2) hm2
end
/-- the end: the law's call by the tables' meaning -/
theorem law_end {r : PySem.W.OpenLaw} {n k j : Nat} {q : Program} {loose : List Str} {XP : (Str → Option Value) → Heap → Prop} {d : DefRec} {l : List En} {bl : List Str} {glob : List (Str × D)} {file : Str} {cs : List (Str × List Str)} {fd : Fd} {x : Str}
    (hfile : cs = [] ∨ ((r.prog.main.file : Str) == file) = true ∧ (r.prog.main.scope.names.lookup ("super" : Str)).isSome = false ∧ ("super" : Str) ∈ bl)
    (hn : r.most = some n) (hn2 : n ≤ sizeLine) (hdf : d.params.defaults = []) (hr : Room k callerA) (ok : ∀ e ∈ l, EnOk (tabOf l glob cs).g bl e) (hd : (tabOf l glob cs).fd d.name = some fd) (hx : fd.ps = [x])
    (law : ∀ ns : List Int, ns.length ≤ n → (∀ i ∈ ns, Builtin.Int.intBits i ≤ 1048576) → ∃ m, callN (tabOf l glob cs) k d.name [.val (.lst (ns.map D.int))] [] = some (.ok (.val (.bl true)) false m)) :
    PySem.W.WalkO q loose XP (hookP j (moOf l bl glob file cs)).says r.row.toRowW d [] (fun f vs => PySem.call f vs) := by
  refine Att.attach_callB hn hdf fun w s₀ s₁ mg mb fa o pm cd doc a vs ns G Y ho hd' hcd hmg hobj hints hlen hbits hg => ?_
  obtain ⟨K, KX, c⟩ := Y
  obtain ⟨c1, c2, c3, c4, c5, c6⟩ := Mo.facts c
  have F := fun base => row_ok (P := r.prog) (w := w) (base := base) hfile KX G.T.g c ok k d.name fd hd
  obtain ⟨a0, fdt, D0⟩ := F s₁.heap
  have ea : a0 = fa := by
    have := D0.at_
    rw [hmg] at this
    cases this; rfl
  subst ea
  obtain ⟨m, hm⟩ := law ns hlen hbits
  refine law_callG (x := x) KX c4 G.T.g G.T.b G.T.builtins G.T.nolimit hg hobj hints (Nat.le_trans hlen hn2) hr (fd := fdt) (sp := spOf K (nmOf K l cs) (callN (tabOf l glob cs) k) d.name) (fun base _ _ => ?_) (fun s u => ?_) fun H hs ha => ?_
  · obtain ⟨a1, fdt1, D1⟩ := F base
    have e1 : a1 = a0 := by
      have := D1.at_
      rw [hmg] at this
      cases this; rfl
    subst e1
    have e2 : fdt1 = fdt := by
      obtain ⟨_, _, _, l0⟩ := D0.lk
      obtain ⟨_, _, _, l1⟩ := D1.lk
      rw [l0] at l1
      cases l1; rfl
    subst e2
    rw [← hx]
    exact D1.fn
  · have b := bind_pos D0.pd [u] (by rw [hx]; rfl)
    rw [hx] at b
    exact .of_eq b
  · obtain ⟨W, w0, q0⟩ := start_world (K := K) (γ := nmOf K l cs) hs ha
    refine ⟨W, _, [], _, w0, q0, hm, fun v H' W' _ _ q => ?_⟩
    simpa [RepR, RepT, Rep] using q
end PY

set_option Elab.async false
set_option linter.all false
set_option maxRecDepth 100000
set_option maxHeartbeats 0
namespace Lk04
open PySem PySem.Spec PyProof.Rows L2 PY Fk04
open Fn
def top (i : Nat) : Stmt := PySem.Challenge.pw_wormsinline_k04_worms_together_and_in_li.main.body.getD i (.Pass ⟨0, 0, 0, 0⟩)
def glob : List (Str × D) := [("ZERO", .tup []), ("MOST_LETTER", .int 6), ("MOST_LENGTH", .int 400)]
def bl : List Str := ["len", "abs", "max", "min", "int", "tuple", "list", "all", "any", "repr", "isinstance", "range", "zip", "bool", "super"]
def cs : List (Str × List Str) := [("WormsError", ["WormsError"]), ("InvalidNumber", ["InvalidNumber", "WormsError"]), ("InvalidWorm", ["InvalidWorm", "WormsError"])]
def file : Str := PySem.Challenge.pw_wormsinline_k04_worms_together_and_in_li.main.file
def d_is_integer : He.DefD := ⟨("is_integer", none), "is_integer", "is_integer", defArgs (top 5), defBody (top 5), defScope (top 5), [], []⟩
def d_is_between : He.DefD := ⟨("is_between", none), "is_between", "is_between", defArgs (top 6), defBody (top 6), defScope (top 6), [], []⟩
def d_is_tuple : He.DefD := ⟨("is_tuple", none), "is_tuple", "is_tuple", defArgs (top 7), defBody (top 7), defScope (top 7), [], []⟩
def d_need_number : He.DefD := ⟨("need_number", none), "need_number", "need_number", defArgs (top 8), defBody (top 8), defScope (top 8), [], []⟩
def d_anew : He.DefD := ⟨("anew", none), "anew", "anew", defArgs (top 9), defBody (top 9), defScope (top 9), [], []⟩
def d_number_in : He.DefD := ⟨("number_in", none), "number_in", "number_in", defArgs (top 12), defBody (top 12), defScope (top 12), [], []⟩
def d_is_number_in : He.DefD := ⟨("is_number_in", none), "is_number_in", "is_number_in", defArgs (top 13), defBody (top 13), defScope (top 13), [], []⟩
def d_plus_in : He.DefD := ⟨("plus_in", none), "plus_in", "plus_in", defArgs (top 14), defBody (top 14), defScope (top 14), [], []⟩
def d_is_worm_in : He.DefD := ⟨("is_worm_in", none), "is_worm_in", "is_worm_in", defArgs (top 18), defBody (top 18), defScope (top 18), [], []⟩
def d_raised_in : He.DefD := ⟨("raised_in", none), "raised_in", "raised_in", defArgs (top 19), defBody (top 19), defScope (top 19), [], []⟩
def d_lowered_in : He.DefD := ⟨("lowered_in", none), "lowered_in", "lowered_in", defArgs (top 20), defBody (top 20), defScope (top 20), [], []⟩
def d_pieces_of : He.DefD := ⟨("pieces_of", none), "pieces_of", "pieces_of", defArgs (top 21), defBody (top 21), defScope (top 21), [], []⟩
def d_order_in : He.DefD := ⟨("order_in", none), "order_in", "order_in", defArgs (top 22), defBody (top 22), defScope (top 22), [], []⟩
def d_worm_in : He.DefD := ⟨("worm_in", none), "worm_in", "worm_in", defArgs (top 23), defBody (top 23), defScope (top 23), [], []⟩
def d_form_in : He.DefD := ⟨("form_in", none), "form_in", "form_in", defArgs (top 24), defBody (top 24), defScope (top 24), [], []⟩
def d_head_at : He.DefD := ⟨("head_at", none), "head_at", "head_at", defArgs (top 26), defBody (top 26), defScope (top 26), [], []⟩
def d_order_at : He.DefD := ⟨("order_at", none), "order_at", "order_at", defArgs (top 27), defBody (top 27), defScope (top 27), [], []⟩
def d_less_at : He.DefD := ⟨("less_at", none), "less_at", "less_at", defArgs (top 28), defBody (top 28), defScope (top 28), [], []⟩
def d_both_raw : He.DefD := ⟨("both_raw", none), "both_raw", "both_raw", defArgs (top 29), defBody (top 29), defScope (top 29), [], []⟩
def d_both_in : He.DefD := ⟨("both_in", none), "both_in", "both_in", defArgs (top 30), defBody (top 30), defScope (top 30), [], []⟩
def d_implies_in : He.DefD := ⟨("implies_in", none), "implies_in", "implies_in", defArgs (top 31), defBody (top 31), defScope (top 31), [], []⟩
def d_need_worm : He.DefD := ⟨("need_worm", none), "need_worm", "need_worm", defArgs (top 33), defBody (top 33), defScope (top 33), [], []⟩
def d_head : He.DefD := ⟨("head", none), "head", "head", defArgs (top 35), defBody (top 35), defScope (top 35), [], []⟩
def d_rest : He.DefD := ⟨("rest", none), "rest", "rest", defArgs (top 36), defBody (top 36), defScope (top 36), [], []⟩
def d_need_worms : He.DefD := ⟨("need_worms", none), "need_worms", "need_worms", defArgs (top 37), defBody (top 37), defScope (top 37), [], []⟩
def d_need_letters : He.DefD := ⟨("need_letters", none), "need_letters", "need_letters", defArgs (top 38), defBody (top 38), defScope (top 38), [], []⟩
def d_stands : He.DefD := ⟨("stands", none), "stands", "stands", defArgs (top 39), defBody (top 39), defScope (top 39), [], []⟩
def d_both : He.DefD := ⟨("both", none), "both", "both", defArgs (top 40), defBody (top 40), defScope (top 40), [], []⟩
def d_all_of : He.DefD := ⟨("all_of", none), "all_of", "all_of", defArgs (top 41), defBody (top 41), defScope (top 41), [], []⟩
def d_implies : He.DefD := ⟨("implies", none), "implies", "implies", defArgs (top 42), defBody (top 42), defScope (top 42), [], []⟩
def d__law_well : He.DefD := ⟨("_law_well", none), "_law_well", "_law_well", defArgs (top 44), defBody (top 44), defScope (top 44), [], []⟩
def d__law_draw : He.DefD := ⟨("_law_draw", none), "_law_draw", "_law_draw", defArgs (top 45), defBody (top 45), defScope (top 45), [], []⟩
def d__law_less : He.DefD := ⟨("_law_less", none), "_law_less", "_law_less", defArgs (top 46), defBody (top 46), defScope (top 46), [], []⟩
def d__law_plus : He.DefD := ⟨("_law_plus", none), "_law_plus", "_law_plus", defArgs (top 47), defBody (top 47), defScope (top 47), [], []⟩
def d__law_order : He.DefD := ⟨("_law_order", none), "_law_order", "_law_order", defArgs (top 48), defBody (top 48), defScope (top 48), [], []⟩
def d__law_worm_of : He.DefD := ⟨("_law_worm_of", none), "_law_worm_of", "_law_worm_of", defArgs (top 49), defBody (top 49), defScope (top 49), [], []⟩
def d__law_heads : He.DefD := ⟨("_law_heads", none), "_law_heads", "_law_heads", defArgs (top 50), defBody (top 50), defScope (top 50), [], []⟩
def d__law_implies : He.DefD := ⟨("_law_implies", none), "_law_implies", "_law_implies", defArgs (top 51), defBody (top 51), defScope (top 51), [], []⟩
def d__law_worm : He.DefD := ⟨("_law_worm", none), "_law_worm", "_law_worm", defArgs (top 52), defBody (top 52), defScope (top 52), [], []⟩
def d__law_told : He.DefD := ⟨("_law_told", none), "_law_told", "_law_told", defArgs (top 53), defBody (top 53), defScope (top 53), [], []⟩
def d__law_refused : He.DefD := ⟨("_law_refused", none), "_law_refused", "_law_refused", defArgs (top 54), defBody (top 54), defScope (top 54), [], []⟩
def d__law_greatest : He.DefD := ⟨("_law_greatest", none), "_law_greatest", "_law_greatest", defArgs (top 55), defBody (top 55), defScope (top 55), [], []⟩
def d__law_right : He.DefD := ⟨("_law_right", none), "_law_right", "_law_right", defArgs (top 56), defBody (top 56), defScope (top 56), [], []⟩
def d_law : He.DefD := ⟨("law", none), "law", "law", defArgs (top 57), defBody (top 57), defScope (top 57), [], []⟩
def ens : List En := [⟨d_is_integer, ["value"], [], f_is_integer⟩, ⟨d_is_between, ["value", "low", "high"], [], f_is_between⟩, ⟨d_is_tuple, ["value", "low", "high"], [], f_is_tuple⟩, ⟨d_need_number, ["number", "low", "high"], [], f_need_number⟩, ⟨d_anew, ["value", "part"], [], f_anew⟩, ⟨d_number_in, ["n"], [], f_number_in⟩, ⟨d_is_number_in, ["ordinal"], [], f_is_number_in⟩, ⟨d_plus_in, ["one", "other", "own"], [], f_plus_in⟩, ⟨d_is_worm_in, ["value", "own"], [], f_is_worm_in⟩, ⟨d_raised_in, ["worm", "n", "own"], [], f_raised_in⟩, ⟨d_lowered_in, ["worm", "n", "own"], [], f_lowered_in⟩, ⟨d_pieces_of, ["worm", "found", "here", "own"], ["found", "here"], f_pieces_of⟩, ⟨d_order_in, ["worm", "found", "piece"], [], f_order_in⟩, ⟨d_worm_in, ["ordinal", "found", "own"], [], f_worm_in⟩, ⟨d_form_in, ["worm"], [], f_form_in⟩, ⟨d_head_at, ["n", "worm", "at"], [], f_head_at⟩, ⟨d_order_at, ["n", "worm"], [], f_order_at⟩, ⟨d_less_at, ["n", "one", "other"], [], f_less_at⟩, ⟨d_both_raw, ["one", "other", "n", "first", "mine", "second", "yours", "tail"], [], f_both_raw⟩, ⟨d_both_in, ["one", "other"], [], f_both_in⟩, ⟨d_implies_in, ["one", "other"], [], f_implies_in⟩, ⟨d_need_worm, ["worm"], [], f_need_worm⟩, ⟨d_head, ["n", "worm"], [], f_head⟩, ⟨d_rest, ["n", "worm"], [], f_rest⟩, ⟨d_need_worms, ["one", "other"], [], f_need_worms⟩, ⟨d_need_letters, ["n", "worm"], [], f_need_letters⟩, ⟨d_stands, ["n", "one", "other"], [], f_stands⟩, ⟨d_both, ["one", "other"], [], f_both⟩, ⟨d_all_of, ["worms", "worm", "found"], [], f_all_of⟩, ⟨d_implies, ["one", "other"], [], f_implies⟩, ⟨d__law_well, ["script", "k", "cell", "whole", "item", "mixed"], [], f__law_well⟩, ⟨d__law_draw, ["well", "many", "found", "step", "mixed"], [], f__law_draw⟩, ⟨d__law_less, ["one", "other", "mine", "yours"], [], f__law_less⟩, ⟨d__law_plus, ["one", "other", "own"], [], f__law_plus⟩, ⟨d__law_order, ["worm", "found", "here", "step", "at", "own"], [], f__law_order⟩, ⟨d__law_worm_of, ["ordinal", "found", "step", "own", "letter"], [], f__law_worm_of⟩, ⟨d__law_heads, ["worm", "most", "found", "n", "at", "own"], ["found"], f__law_heads⟩, ⟨d__law_implies, ["one", "other", "mine", "yours"], [], f__law_implies⟩, ⟨d__law_worm, ["well", "many", "most", "found", "turn"], ["found"], f__law_worm⟩, ⟨d__law_told, ["way", "first", "second", "third", "caught", "e", "kinds", "at"], [], f__law_told⟩, ⟨d__law_refused, ["well", "worm", "bad", "way", "own"], [], f__law_refused⟩, ⟨d__law_greatest, ["one", "other", "both_told", "some", "own"], [], f__law_greatest⟩, ⟨d__law_right, ["well", "most", "one", "other", "more", "n", "at", "told", "mine", "yours", "least", "a", "b", "due", "m", "first", "second", "own", "ties"], [], f__law_right⟩, ⟨d_law, ["script", "k", "well", "turn"], ["well"], f_law⟩]
def P : Pr := tabOf ens glob cs
def M : Mo := moOf ens bl glob file cs
theorem fd_is_integer : P.fd "is_integer" = some f_is_integer := by kernel_rfl
theorem fd_is_between : P.fd "is_between" = some f_is_between := by kernel_rfl
theorem fd_is_tuple : P.fd "is_tuple" = some f_is_tuple := by kernel_rfl
theorem fd_need_number : P.fd "need_number" = some f_need_number := by kernel_rfl
theorem fd_anew : P.fd "anew" = some f_anew := by kernel_rfl
theorem fd_number_in : P.fd "number_in" = some f_number_in := by kernel_rfl
theorem fd_is_number_in : P.fd "is_number_in" = some f_is_number_in := by kernel_rfl
theorem fd_plus_in : P.fd "plus_in" = some f_plus_in := by kernel_rfl
theorem fd_is_worm_in : P.fd "is_worm_in" = some f_is_worm_in := by kernel_rfl
theorem fd_raised_in : P.fd "raised_in" = some f_raised_in := by kernel_rfl
theorem fd_lowered_in : P.fd "lowered_in" = some f_lowered_in := by kernel_rfl
theorem fd_pieces_of : P.fd "pieces_of" = some f_pieces_of := by kernel_rfl
theorem fd_order_in : P.fd "order_in" = some f_order_in := by kernel_rfl
theorem fd_worm_in : P.fd "worm_in" = some f_worm_in := by kernel_rfl
theorem fd_form_in : P.fd "form_in" = some f_form_in := by kernel_rfl
theorem fd_head_at : P.fd "head_at" = some f_head_at := by kernel_rfl
theorem fd_order_at : P.fd "order_at" = some f_order_at := by kernel_rfl
theorem fd_less_at : P.fd "less_at" = some f_less_at := by kernel_rfl
theorem fd_both_raw : P.fd "both_raw" = some f_both_raw := by kernel_rfl
theorem fd_both_in : P.fd "both_in" = some f_both_in := by kernel_rfl
theorem fd_implies_in : P.fd "implies_in" = some f_implies_in := by kernel_rfl
theorem fd_need_worm : P.fd "need_worm" = some f_need_worm := by kernel_rfl
theorem fd_head : P.fd "head" = some f_head := by kernel_rfl
theorem fd_rest : P.fd "rest" = some f_rest := by kernel_rfl
theorem fd_need_worms : P.fd "need_worms" = some f_need_worms := by kernel_rfl
theorem fd_need_letters : P.fd "need_letters" = some f_need_letters := by kernel_rfl
theorem fd_stands : P.fd "stands" = some f_stands := by kernel_rfl
theorem fd_both : P.fd "both" = some f_both := by kernel_rfl
theorem fd_all_of : P.fd "all_of" = some f_all_of := by kernel_rfl
theorem fd_implies : P.fd "implies" = some f_implies := by kernel_rfl
theorem fd__law_well : P.fd "_law_well" = some f__law_well := by kernel_rfl
theorem fd__law_draw : P.fd "_law_draw" = some f__law_draw := by kernel_rfl
theorem fd__law_less : P.fd "_law_less" = some f__law_less := by kernel_rfl
theorem fd__law_plus : P.fd "_law_plus" = some f__law_plus := by kernel_rfl
theorem fd__law_order : P.fd "_law_order" = some f__law_order := by kernel_rfl
theorem fd__law_worm_of : P.fd "_law_worm_of" = some f__law_worm_of := by kernel_rfl
theorem fd__law_heads : P.fd "_law_heads" = some f__law_heads := by kernel_rfl
theorem fd__law_implies : P.fd "_law_implies" = some f__law_implies := by kernel_rfl
theorem fd__law_worm : P.fd "_law_worm" = some f__law_worm := by kernel_rfl
theorem fd__law_told : P.fd "_law_told" = some f__law_told := by kernel_rfl
theorem fd__law_refused : P.fd "_law_refused" = some f__law_refused := by kernel_rfl
theorem fd__law_greatest : P.fd "_law_greatest" = some f__law_greatest := by kernel_rfl
theorem fd__law_right : P.fd "_law_right" = some f__law_right := by kernel_rfl
theorem fd_law : P.fd "law" = some f_law := by kernel_rfl
theorem gl_ZERO : P.g.glob "ZERO" = some (.tup []) := by kernel_rfl
theorem gl_MOST_LETTER : P.g.glob "MOST_LETTER" = some (.int 6) := by kernel_rfl
theorem gl_MOST_LENGTH : P.g.glob "MOST_LENGTH" = some (.int 400) := by kernel_rfl
theorem cl_WormsError : P.cls "WormsError" = some (["WormsError"] : List Str) := by kernel_rfl
theorem cl_InvalidNumber : P.cls "InvalidNumber" = some (["InvalidNumber", "WormsError"] : List Str) := by kernel_rfl
theorem cl_InvalidWorm : P.cls "InvalidWorm" = some (["InvalidWorm", "WormsError"] : List Str) := by kernel_rfl
theorem en_is_integer : EnOk P.g bl ⟨d_is_integer, ["value"], [], f_is_integer⟩ := ⟨by kernel_rfl, by kernel_rfl⟩
theorem en_is_between : EnOk P.g bl ⟨d_is_between, ["value", "low", "high"], [], f_is_between⟩ := ⟨by kernel_rfl, by kernel_rfl⟩
theorem en_is_tuple : EnOk P.g bl ⟨d_is_tuple, ["value", "low", "high"], [], f_is_tuple⟩ := ⟨by kernel_rfl, by kernel_rfl⟩
theorem en_need_number : EnOk P.g bl ⟨d_need_number, ["number", "low", "high"], [], f_need_number⟩ := ⟨by kernel_rfl, by kernel_rfl⟩
theorem en_anew : EnOk P.g bl ⟨d_anew, ["value", "part"], [], f_anew⟩ := ⟨by kernel_rfl, by kernel_rfl⟩
theorem en_number_in : EnOk P.g bl ⟨d_number_in, ["n"], [], f_number_in⟩ := ⟨by kernel_rfl, by kernel_rfl⟩
theorem en_is_number_in : EnOk P.g bl ⟨d_is_number_in, ["ordinal"], [], f_is_number_in⟩ := ⟨by kernel_rfl, by kernel_rfl⟩
theorem en_plus_in : EnOk P.g bl ⟨d_plus_in, ["one", "other", "own"], [], f_plus_in⟩ := ⟨by kernel_rfl, by kernel_rfl⟩
theorem en_is_worm_in : EnOk P.g bl ⟨d_is_worm_in, ["value", "own"], [], f_is_worm_in⟩ := ⟨by kernel_rfl, by kernel_rfl⟩
theorem en_raised_in : EnOk P.g bl ⟨d_raised_in, ["worm", "n", "own"], [], f_raised_in⟩ := ⟨by kernel_rfl, by kernel_rfl⟩
theorem en_lowered_in : EnOk P.g bl ⟨d_lowered_in, ["worm", "n", "own"], [], f_lowered_in⟩ := ⟨by kernel_rfl, by kernel_rfl⟩
theorem en_pieces_of : EnOk P.g bl ⟨d_pieces_of, ["worm", "found", "here", "own"], ["found", "here"], f_pieces_of⟩ := ⟨by kernel_rfl, by kernel_rfl⟩
theorem en_order_in : EnOk P.g bl ⟨d_order_in, ["worm", "found", "piece"], [], f_order_in⟩ := ⟨by kernel_rfl, by kernel_rfl⟩
theorem en_worm_in : EnOk P.g bl ⟨d_worm_in, ["ordinal", "found", "own"], [], f_worm_in⟩ := ⟨by kernel_rfl, by kernel_rfl⟩
theorem en_form_in : EnOk P.g bl ⟨d_form_in, ["worm"], [], f_form_in⟩ := ⟨by kernel_rfl, by kernel_rfl⟩
theorem en_head_at : EnOk P.g bl ⟨d_head_at, ["n", "worm", "at"], [], f_head_at⟩ := ⟨by kernel_rfl, by kernel_rfl⟩
theorem en_order_at : EnOk P.g bl ⟨d_order_at, ["n", "worm"], [], f_order_at⟩ := ⟨by kernel_rfl, by kernel_rfl⟩
theorem en_less_at : EnOk P.g bl ⟨d_less_at, ["n", "one", "other"], [], f_less_at⟩ := ⟨by kernel_rfl, by kernel_rfl⟩
theorem en_both_raw : EnOk P.g bl ⟨d_both_raw, ["one", "other", "n", "first", "mine", "second", "yours", "tail"], [], f_both_raw⟩ := ⟨by kernel_rfl, by kernel_rfl⟩
theorem en_both_in : EnOk P.g bl ⟨d_both_in, ["one", "other"], [], f_both_in⟩ := ⟨by kernel_rfl, by kernel_rfl⟩
theorem en_implies_in : EnOk P.g bl ⟨d_implies_in, ["one", "other"], [], f_implies_in⟩ := ⟨by kernel_rfl, by kernel_rfl⟩
theorem en_need_worm : EnOk P.g bl ⟨d_need_worm, ["worm"], [], f_need_worm⟩ := ⟨by kernel_rfl, by kernel_rfl⟩
theorem en_head : EnOk P.g bl ⟨d_head, ["n", "worm"], [], f_head⟩ := ⟨by kernel_rfl, by kernel_rfl⟩
theorem en_rest : EnOk P.g bl ⟨d_rest, ["n", "worm"], [], f_rest⟩ := ⟨by kernel_rfl, by kernel_rfl⟩
theorem en_need_worms : EnOk P.g bl ⟨d_need_worms, ["one", "other"], [], f_need_worms⟩ := ⟨by kernel_rfl, by kernel_rfl⟩
theorem en_need_letters : EnOk P.g bl ⟨d_need_letters, ["n", "worm"], [], f_need_letters⟩ := ⟨by kernel_rfl, by kernel_rfl⟩
theorem en_stands : EnOk P.g bl ⟨d_stands, ["n", "one", "other"], [], f_stands⟩ := ⟨by kernel_rfl, by kernel_rfl⟩
theorem en_both : EnOk P.g bl ⟨d_both, ["one", "other"], [], f_both⟩ := ⟨by kernel_rfl, by kernel_rfl⟩
theorem en_all_of : EnOk P.g bl ⟨d_all_of, ["worms", "worm", "found"], [], f_all_of⟩ := ⟨by kernel_rfl, by kernel_rfl⟩
theorem en_implies : EnOk P.g bl ⟨d_implies, ["one", "other"], [], f_implies⟩ := ⟨by kernel_rfl, by kernel_rfl⟩
theorem en__law_well : EnOk P.g bl ⟨d__law_well, ["script", "k", "cell", "whole", "item", "mixed"], [], f__law_well⟩ := ⟨by kernel_rfl, by kernel_rfl⟩
theorem en__law_draw : EnOk P.g bl ⟨d__law_draw, ["well", "many", "found", "step", "mixed"], [], f__law_draw⟩ := ⟨by kernel_rfl, by kernel_rfl⟩
theorem en__law_less : EnOk P.g bl ⟨d__law_less, ["one", "other", "mine", "yours"], [], f__law_less⟩ := ⟨by kernel_rfl, by kernel_rfl⟩
theorem en__law_plus : EnOk P.g bl ⟨d__law_plus, ["one", "other", "own"], [], f__law_plus⟩ := ⟨by kernel_rfl, by kernel_rfl⟩
theorem en__law_order : EnOk P.g bl ⟨d__law_order, ["worm", "found", "here", "step", "at", "own"], [], f__law_order⟩ := ⟨by kernel_rfl, by kernel_rfl⟩
theorem en__law_worm_of : EnOk P.g bl ⟨d__law_worm_of, ["ordinal", "found", "step", "own", "letter"], [], f__law_worm_of⟩ := ⟨by kernel_rfl, by kernel_rfl⟩
theorem en__law_heads : EnOk P.g bl ⟨d__law_heads, ["worm", "most", "found", "n", "at", "own"], ["found"], f__law_heads⟩ := ⟨by kernel_rfl, by kernel_rfl⟩
theorem en__law_implies : EnOk P.g bl ⟨d__law_implies, ["one", "other", "mine", "yours"], [], f__law_implies⟩ := ⟨by kernel_rfl, by kernel_rfl⟩
theorem en__law_worm : EnOk P.g bl ⟨d__law_worm, ["well", "many", "most", "found", "turn"], ["found"], f__law_worm⟩ := ⟨by kernel_rfl, by kernel_rfl⟩
theorem en__law_told : EnOk P.g bl ⟨d__law_told, ["way", "first", "second", "third", "caught", "e", "kinds", "at"], [], f__law_told⟩ := ⟨by kernel_rfl, by kernel_rfl⟩
theorem en__law_refused : EnOk P.g bl ⟨d__law_refused, ["well", "worm", "bad", "way", "own"], [], f__law_refused⟩ := ⟨by kernel_rfl, by kernel_rfl⟩
theorem en__law_greatest : EnOk P.g bl ⟨d__law_greatest, ["one", "other", "both_told", "some", "own"], [], f__law_greatest⟩ := ⟨by kernel_rfl, by kernel_rfl⟩
theorem en__law_right : EnOk P.g bl ⟨d__law_right, ["well", "most", "one", "other", "more", "n", "at", "told", "mine", "yours", "least", "a", "b", "due", "m", "first", "second", "own", "ties"], [], f__law_right⟩ := ⟨by kernel_rfl, by kernel_rfl⟩
theorem en_law : EnOk P.g bl ⟨d_law, ["script", "k", "well", "turn"], ["well"], f_law⟩ := ⟨by kernel_rfl, by kernel_rfl⟩
theorem ens_ok : ∀ e ∈ ens, EnOk P.g bl e := by
  intro e he
  simp only [ens, List.mem_cons, List.not_mem_nil, or_false] at he
  rcases he with rfl | rfl | rfl | rfl | rfl | rfl | rfl | rfl | rfl | rfl | rfl | rfl | rfl | rfl | rfl | rfl | rfl | rfl | rfl | rfl | rfl | rfl | rfl | rfl | rfl | rfl | rfl | rfl | rfl | rfl | rfl | rfl | rfl | rfl | rfl | rfl | rfl | rfl | rfl | rfl | rfl | rfl | rfl | rfl
  · exact en_is_integer
  · exact en_is_between
  · exact en_is_tuple
  · exact en_need_number
  · exact en_anew
  · exact en_number_in
  · exact en_is_number_in
  · exact en_plus_in
  · exact en_is_worm_in
  · exact en_raised_in
  · exact en_lowered_in
  · exact en_pieces_of
  · exact en_order_in
  · exact en_worm_in
  · exact en_form_in
  · exact en_head_at
  · exact en_order_at
  · exact en_less_at
  · exact en_both_raw
  · exact en_both_in
  · exact en_implies_in
  · exact en_need_worm
  · exact en_head
  · exact en_rest
  · exact en_need_worms
  · exact en_need_letters
  · exact en_stands
  · exact en_both
  · exact en_all_of
  · exact en_implies
  · exact en__law_well
  · exact en__law_draw
  · exact en__law_less
  · exact en__law_plus
  · exact en__law_order
  · exact en__law_worm_of
  · exact en__law_heads
  · exact en__law_implies
  · exact en__law_worm
  · exact en__law_told
  · exact en__law_refused
  · exact en__law_greatest
  · exact en__law_right
  · exact en_law
abbrev R : PySem.W.OpenRow := PySem.W.OpenLaw.row PySem.Challenge.rw_wormsinline_k04_worms_together_and_in_li
def ob (s : PySem.W.SharedT) : AlP := M.obsG 4 (HandSHeadRun.getT s)
theorem ob_eq (s : PySem.W.SharedT) : ob s = (hookP 4 M).obs s.abs := obsG_eq (HandSHeadRun.getT_eq s)
abbrev ix : Nat := 57
def loose0 : List Str := ["WormsError", "InvalidNumber", "InvalidWorm", "is_integer", "is_between", "is_tuple", "need_number", "anew", "ZERO", "number_in", "is_number_in", "plus_in", "MOST_LETTER", "MOST_LENGTH", "is_worm_in"]
def loose1 : List Str := ["raised_in", "lowered_in", "pieces_of", "order_in", "worm_in", "form_in", "head_at", "order_at", "less_at", "both_raw", "both_in", "implies_in", "need_worm", "head", "rest"]
def loose2 : List Str := ["need_worms", "need_letters", "stands", "both", "all_of", "implies", "_law_well", "_law_draw", "_law_less", "_law_plus", "_law_order", "_law_worm_of", "_law_heads", "_law_implies", "_law_worm"]
def loose3 : List Str := ["_law_told", "_law_refused", "_law_greatest", "_law_right"]
def loose : List Str := loose0 ++ loose1 ++ loose2 ++ loose3
theorem run (w : World) : HandSHeadRun.RunEq R (PySem.W.view R.prog [57]) (hookP 4 M) ob 4000 loose w := by
  intro os
  kernel_rfl
end Lk04

set_option Elab.async false
set_option linter.all false
set_option maxRecDepth 100000
set_option maxHeartbeats 0
namespace Lk04
open PySem PySem.Spec PyProof.Rows L2 PY Wk
theorem iS_law_draw : S_law_draw Lk04.P := t_law_draw Lk04.fd__law_draw
theorem iS_is_integer : S_is_integer Lk04.P := t_is_integer Lk04.fd_is_integer
theorem iS_is_between : S_is_between Lk04.P := t_is_between Lk04.fd_is_between iS_is_integer
theorem iS_is_tuple : S_is_tuple Lk04.P := t_is_tuple Lk04.fd_is_tuple
theorem iS_need_number : S_need_number Lk04.P := t_need_number Lk04.fd_need_number
theorem iS_number_in : S_number_in Lk04.P := t_number_in Lk04.fd_number_in Lk04.gl_ZERO
theorem iS_plus_in : S_plus_in Lk04.P := t_plus_in Lk04.fd_plus_in Lk04.gl_ZERO
theorem iS_is_worm_in : S_is_worm_in Lk04.P := t_is_worm_in Lk04.fd_is_worm_in iS_is_tuple iS_is_between Lk04.gl_MOST_LENGTH Lk04.gl_MOST_LETTER
theorem iS_raised_in : S_raised_in Lk04.P := t_raised_in Lk04.fd_raised_in
theorem iS_lowered_in : S_lowered_in Lk04.P := t_lowered_in Lk04.fd_lowered_in
theorem iS_pieces_of : S_pieces_of Lk04.P := t_pieces_of Lk04.fd_pieces_of
theorem iS_order_in : S_order_in Lk04.P := t_order_in Lk04.fd_order_in iS_number_in iS_pieces_of iS_lowered_in iS_plus_in Lk04.gl_ZERO
theorem iS_is_number_in : S_is_number_in Lk04.P := t_is_number_in Lk04.fd_is_number_in Lk04.gl_ZERO
theorem iS_worm_in : S_worm_in Lk04.P := t_worm_in Lk04.fd_worm_in iS_is_number_in iS_raised_in
theorem iS_form_in : S_form_in Lk04.P := t_form_in Lk04.fd_form_in iS_order_in iS_worm_in
theorem iS_need_worm : S_need_worm Lk04.P := t_need_worm Lk04.fd_need_worm iS_is_worm_in
theorem iS_law_less : S_law_less Lk04.P := t_law_less Lk04.fd__law_less
theorem iS_law_plus : S_law_plus Lk04.P := t_law_plus Lk04.fd__law_plus iS_law_less
theorem iS_law_order : S_law_order Lk04.P := t_law_order Lk04.fd__law_order iS_law_plus
theorem iS_law_worm : S_law_worm Lk04.P := t_law_worm Lk04.fd__law_worm iS_law_draw
theorem iS_anew : S_anew Lk04.P := t_anew Lk04.fd_anew
theorem iS_need_numberG : S_need_numberG Lk04.P := t_need_numberG Lk04.fd_need_number
theorem iS_need_wormG : S_need_wormG Lk04.P := t_need_wormG Lk04.fd_need_worm iS_is_worm_in iS_anew
theorem iS_head_at : S_head_at Lk04.P := t_head_at Lk04.fd_head_at
theorem iS_order_at : S_order_at Lk04.P := t_order_at Lk04.fd_order_at iS_order_in iS_lowered_in
theorem iS_less_at : S_less_at Lk04.P := t_less_at Lk04.fd_less_at iS_order_at
theorem iS_both_raw : S_both_raw Lk04.P := t_both_raw Lk04.fd_both_raw iS_head_at iS_less_at
theorem iS_both_in : S_both_in Lk04.P := t_both_in Lk04.fd_both_in iS_both_raw iS_form_in
theorem iS_implies_in : S_implies_in Lk04.P := t_implies_in Lk04.fd_implies_in iS_both_raw iS_order_in
theorem iS_need_worms : S_need_worms Lk04.P := t_need_worms Lk04.fd_need_worms iS_need_worm
theorem iS_need_wormsX : S_need_wormsX Lk04.P := t_need_wormsX Lk04.fd_need_worms iS_need_wormG
theorem iS_both : S_both Lk04.P := t_both Lk04.fd_both iS_need_worms iS_both_in
theorem iS_implies : S_implies Lk04.P := t_implies Lk04.fd_implies iS_need_worms iS_implies_in
theorem iS_bothX : S_bothX Lk04.P := t_bothX Lk04.fd_both iS_need_wormsX
theorem iS_impliesX : S_impliesX Lk04.P := t_impliesX Lk04.fd_implies iS_need_wormsX
theorem iS_head : S_head Lk04.P := t_head Lk04.fd_head iS_need_number iS_need_worm iS_head_at Lk04.gl_MOST_LETTER
theorem iS_rest : S_rest Lk04.P := t_rest Lk04.fd_rest iS_need_number iS_need_worm iS_head_at Lk04.gl_MOST_LETTER
theorem iS_headX : S_headX Lk04.P := t_headX Lk04.fd_head iS_need_numberG iS_need_wormG Lk04.gl_MOST_LETTER
theorem iS_restX : S_restX Lk04.P := t_restX Lk04.fd_rest iS_need_numberG iS_need_wormG Lk04.gl_MOST_LETTER
theorem iS_need_letters : S_need_letters Lk04.P := t_need_letters Lk04.fd_need_letters iS_need_wormG iS_head_at iS_anew
theorem iS_stands : S_stands Lk04.P := t_stands Lk04.fd_stands iS_need_number iS_need_letters iS_less_at Lk04.gl_MOST_LETTER
theorem iS_standsX : S_standsX Lk04.P := t_standsX Lk04.fd_stands iS_need_numberG iS_need_letters Lk04.gl_MOST_LETTER
theorem iS_all_of : S_all_of Lk04.P := t_all_of Lk04.fd_all_of iS_is_worm_in iS_both_in
theorem iS_all_ofX : S_all_ofX Lk04.P := t_all_ofX Lk04.fd_all_of iS_is_worm_in iS_anew
theorem iS_law_heads : S_law_heads Lk04.P := t_law_heads Lk04.fd__law_heads iS_law_order
theorem iS_law_implies : S_law_implies Lk04.P := t_law_implies Lk04.fd__law_implies iS_law_heads iS_law_less
theorem iS_law_greatest : S_law_greatest Lk04.P := t_law_greatest Lk04.fd__law_greatest iS_law_implies
theorem iS_law_told04 : S_law_told04 Lk04.P := t_law_told04 Lk04.fd__law_told Lk04.cl_WormsError Lk04.cl_InvalidWorm Lk04.cl_InvalidNumber
theorem iS_law_refused04 : S_law_refused04 Lk04.P := t_law_refused04 Lk04.fd__law_refused iS_law_draw iS_law_told04 iS_headX iS_restX iS_standsX iS_bothX iS_impliesX iS_all_ofX
theorem iS_law_worm_of : S_law_worm_of Lk04.P := t_law_worm_of Lk04.fd__law_worm_of
theorem iS_law_right04 : S_law_right04 Lk04.P := t_law_right04 Lk04.fd__law_right iS_law_draw iS_law_worm iS_law_order iS_law_worm_of iS_law_heads iS_law_implies iS_law_greatest iS_law_less iS_law_refused04 iS_head iS_rest iS_both iS_implies iS_all_of iS_stands
theorem law_all (ns : List Int) (h1 : ns.length ≤ 63) (h2 : ∀ i ∈ ns, Builtin.Int.intBits i ≤ 1048576) : ∃ m, callN P 200 "law" [.val (.lst (ns.map D.int))] [] = some (.ok (.val (.bl true)) false m) :=
  Wk.t_law (c := 3) (n := 3) fd_law (by decide) (by decide) (by decide) (Wk.t_law_well 821 757 797 259 281 fd__law_well (by decide) (by decide)) 200 170 (by decide) (fun j m B k hw hB hk => iS_law_right04 j m B k hw (by omega) hk) ns h1 200 (by decide)

end Lk04
open PySem PySem.W PySem.Calls PyProof.Rows
theorem PySem.Challenge.cw_wormsinline_k04_worms_together_and_in_li_holds : PySem.Challenge.rw_wormsinline_k04_worms_together_and_in_li.Holds := by
  w_on; o_law
  refine HandSHeadRun.head_any (r := OpenLaw.row PySem.Challenge.rw_wormsinline_k04_worms_together_and_in_li) (q := view (OpenLaw.row PySem.Challenge.rw_wormsinline_k04_worms_together_and_in_li).prog [Lk04.ix]) (H := PY.hookP 4 Lk04.M) (ob := Lk04.ob) (M := 4000) (loose := Lk04.loose) (d := HandSHeadRun.topDef (OpenLaw.row PySem.Challenge.rw_wormsinline_k04_worms_together_and_in_li).prog Lk04.ix) (kwd := []) Lk04.ob_eq
    (by kernel_rfl) (fun s => by kernel_rfl) Lk04.run (by kernel_rfl) (by kernel_rfl) (by kernel_rfl) (by rfl) (by first | assumption | decide +kernel) (by decide +kernel) ⟨rfl, rfl, rfl, rfl, rfl, by decide +kernel⟩ ?hw ?hc
  case hw => w_witness2
  case hc =>
    have e : (HandSHeadRun.topDef (OpenLaw.row PySem.Challenge.rw_wormsinline_k04_worms_together_and_in_li).prog Lk04.ix).name = ("law" : PySem.Str) := by kernel_rfl
    refine PY.law_end (r := PySem.Challenge.rw_wormsinline_k04_worms_together_and_in_li) (n := 63) (k := 200) (l := Lk04.ens) (bl := Lk04.bl) (glob := Lk04.glob) (file := Lk04.file) (cs := Lk04.cs) (fd := Fk04.f_law) (x := "script") (.inr ⟨by kernel_rfl, by kernel_rfl, by decide⟩) rfl (by decide) (by kernel_rfl) ⟨rfl, by decide, by decide⟩ Lk04.ens_ok (by rw [e]; exact Lk04.fd_law) rfl (fun ns h1 h2 => by rw [e]; exact Lk04.law_all ns h1 h2)
