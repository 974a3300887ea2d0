import PyProof.Rows.All
import HandS.Conv
import HandS.DictComp
import HandS.EndTab
import HandS.Exc
import HandS.ExcValue
import HandS.ForMost
import HandS.Head0
import HandS.Head1
import HandS.Head2
import HandS.HeadEnd
import HandS.HeadHook4
import HandS.HeadWalk
import HandS.IsInst
import HandS.Nested
import HandS.SetFor
import HandS.Sort
import HandS.Strs
import HandS.Style
import HandS.TupAny
import HandS.TupMul
import HandS.Walk
import HandS.Zip
import KE.DataFind
import KE.DataMinMax
import KE.GoesEnum
import KE.GoesMore
import KE.GoesZip
import KE.SortData
import KE.SortKeyHeap
import OpenK.AllK
import PyProof.ReprRoads
import PyProof.StrOps2
import Wide.All
import Wide.FinOn
import PySem.Challenge.RW_runwayrows_k74_whole_first_fillings
set_option Elab.async false
set_option linter.all false
set_option maxRecDepth 100000
/-! Fx1: a small functional language for the programs' defs, and what its texts give. Values are data (PyData), things of a store, functions. -/
namespace Fx
open PySem

/-! ### values, the store, what a run gives -/
inductive Val where
  | d (x : PyData)
  | o (l : Nat)
  | c (k : Nat) (ws : List PyData)
  | g (f : Str)
inductive Cel where
  | dead
  | lst (xs : List PyData)
  | dct (tk : Bool) (ps : List (PyData × PyData))
structure Exn where
  cls : Str
  args : List (Str × PyData)
abbrev Sto := List Cel
inductive Out (α : Type) where
  | ok (a : α) (s : Sto)
  | err (x : Exn) (s : Sto)
  | bad
def M (α : Type) : Type := Sto → Out α
namespace M
variable {α β : Type}
def pure (a : α) : M α := fun s => .ok a s
def bad : M α := fun _ => .bad
def raise (x : Exn) : M α := fun s => .err x s
/-- an exception is not borne -/
def calm (m : M α) : M α := fun s => match m s with
  | .err _ _ => .bad
  | o => o
def bind (m : M α) (f : α → M β) : M β := fun s => match m s with
  | .ok a s' => f a s'
  | .err x s' => .err x s'
  | .bad => .bad
theorem bind_pure (a : α) (f : α → M β) : M.bind (M.pure a) f = f a := rfl
theorem bind_bad (f : α → M β) : M.bind M.bad f = M.bad := rfl
theorem bind_raise (x : Exn) (f : α → M β) : M.bind (M.raise x) f = M.raise x := rfl
theorem pure_bind (m : M α) : M.bind m M.pure = m := by
  funext s; unfold M.bind; cases m s <;> rfl
theorem bind_assoc {γ : Type} (m : M α) (f : α → M β) (g : β → M γ) : M.bind (M.bind m f) g = M.bind m fun a => M.bind (f a) g := by
  funext s; unfold M.bind; cases m s <;> rfl
theorem pure_at (a : α) (s : Sto) : (M.pure a : M α) s = .ok a s := rfl
end M

/-! ### data -/
mutual
def dEq : PyData → PyData → Bool
  | .none, .none => true
  | .bool a, .bool b => a == b
  | .int i, .int j => decide (i = j)
  | .str x, .str y => decide (x = y)
  | .list xs, .list ys => dEqs xs ys
  | .tuple xs, .tuple ys => dEqs xs ys
  | _, _ => false
def dEqs : List PyData → List PyData → Bool
  | [], [] => true
  | x :: xs, y :: ys => dEq x y && dEqs xs ys
  | _, _ => false
end
def isTk : PyData → Bool
  | .tuple _ => true
  | _ => false
def flatK : PyData → Bool
  | .int _ => true
  | .str _ => true
  | _ => false
/-- what a dict may be asked by -/
def isKey : PyData → Bool
  | .int _ => true
  | .str _ => true
  | .tuple xs => xs.all flatK
  | _ => false
def lookD (ps : List (PyData × PyData)) (k : PyData) : Option PyData := (ps.find? fun p => dEq p.1 k).map (·.2)
def putD (ps : List (PyData × PyData)) (k v : PyData) : List (PyData × PyData) := if (lookD ps k).isSome then ps.map (fun p => if dEq p.1 k then (p.1, v) else p) else ps ++ [(k, v)]
def cut {α : Type} (xs : List α) (lo hi : Option Int) : List α := (xs.drop (HT.sIx xs.length 0 lo)).take (HT.sIx xs.length xs.length hi - HT.sIx xs.length 0 lo)
/-- the greatest, the least of a first one and others -/
def maxI (x : Int) (r : List Int) : Int := r.foldl (fun a y => if y > a then y else a) x
def minI (x : Int) (r : List Int) : Int := r.foldl (fun a y => if y < a then y else a) x
/-- the members of a row of ints, in order -/
def insI (x : Int) : List Int → List Int
  | [] => [x]
  | y :: r => if x < y then x :: y :: r else if x = y then y :: r else y :: insI x r
def setI (ns : List Int) : List Int := ns.foldr insI []
def intsOf : List PyData → Option (List Int)
  | [] => some []
  | .int i :: r => (intsOf r).map (i :: ·)
  | _ => none
def boolsOf : List PyData → Option (List Bool)
  | [] => some []
  | .bool b :: r => (boolsOf r).map (b :: ·)
  | _ => none
def strsOf : List PyData → Option (List Str)
  | [] => some []
  | .str b :: r => (strsOf r).map (b :: ·)
  | _ => none
def sortOk (xs : List PyData) : Bool := (xs.all fun a => xs.all fun b => PySem.W.alike a b) && ((xs.all fun a => match a with | .tuple (_ :: _) => true | _ => false) || (xs.all fun a => match a with | .none => false | .tuple _ => false | _ => true))
def sortD (xs : List PyData) : List PyData := xs.mergeSort (PySem.W.dataLe false id)
/-- a row of signs of a text -/
def signs (x : Str) : List PyData := x.cps.toList.map fun c => .str ⟨#[c]⟩

/-! ### the texts -/
inductive Ty where
  | int | bool | str | tuple | list
inductive Bi where
  | len | lenD | max2 | min2 | max | min | sum | all | any | abs | int | tuple | list | sorted | divmod | repr | str | dictZip | sortedSet | lenSet | maxVals | minVals
inductive Me where
  | index | count | get | append | extend | remove | split | join
mutual
inductive E where
  | no
  | var (i : Nat) | glob (x : Str) | cst (c : PyData)
  | neg (a : E) | notv (a : E)
  | bin (op : Operator) (a b : E) | catO (a b : E) | mulO (a b : E)
  | cmp (op : CmpOp) (a b : E) | din (neg : Bool) (a d : E) | ing (neg : Bool) (a : E) (x : Str) | rep (neg : Bool) (a b : E) | chain (o1 o2 : CmpOp) (a b c : E)
  | andv (a b : E) | orv (a b : E) | ife (c a b : E)
  | tup (es : Es) | tupS (es : Es) | lst (ob : Bool) (es : Es) | lstS (ob : Bool) (es : Es) | star (a : E)
  | dnew (tk : Bool) | dstar (a k v : E)
  | sub (a i : E) | dsub (a k : E) | slc (a lo hi : E) | rev (a : E)
  | isi (a : E) (t : Ty)
  | bi (b : Bi) (ob : Bool) (es : Es)
  | sortK (ob : Bool) (a f : E)
  | sortR (ob : Bool) (a f : E)
  | me (m : Me) (a : E) (es : Es)
  | call (f : Str) (es : Es) (pm : List Nat)
  | callv (i : Nat) (es : Es)
  | comp (ob : Bool) (own : List Nat) (cs : Cs) (e : E)
  | dcomp (tk : Bool) (own : List Nat) (cs : Cs) (k v : E)
  | clo (k : Nat) (js : List Nat)
  | fn (f : Str)
  | frz (a : E)
inductive Es where
  | nil
  | cons (a : E) (es : Es)
inductive I where
  | of (a : E) | rng1 (a : E) | rng2 (a b : E) | rng3 (a b c : E)
  | enum (a : E) | zip (a b : E) | items (a : E) | vals (a : E) | keys (a : E)
inductive Cs where
  | nil
  | cons (t : T) (it : I) (c : E) (cs : Cs)
inductive T where
  | nm (i : Nat) | tp (ts : Ts) | sb (a i : E) | ds (a k : E)
inductive Ts where
  | nil
  | cons (t : T) (ts : Ts)
end
mutual
inductive S where
  | ex (a : E) | asg (t : T) (a : E) | par (ts : Ts) (es : Es)
  | aug (i : Nat) (op : Operator) (a : E) | augs (a i : E) (op : Operator) (b : E)
  | ret (a : E) | retN
  | ifs (c : E) (a b : Ss)
  | for_ (t : T) (it : I) (b : Ss)
  | whl (n : Nat) (c : E) (b : Ss)
  | pass | brk | cnt
  | ndef (i k : Nat) (js : List Nat)
  | raise (x : Str) (f : Str) (a : E) | raise0 (x : Str)
inductive Ss where
  | nil
  | cons (s : S) (ss : Ss)
end
/-- a def: how many slots, how many parameters, the body -/
structure Fn where
  slots : Nat
  pars : Nat
  body : Ss
end Fx

set_option Elab.async false
set_option linter.all false
set_option maxRecDepth 100000
/-! Fx2: what the texts give. -/
namespace Fx
open PySem
abbrev Bnd (α β : Type) := M α → (α → M β) → M β
/-! ### values -/
inductive Slv where
  | v (x : Val)
  | nd (k : Nat) (js : List Nat)
abbrev Env := List (Option Slv)
structure Tbl where
  fn : Str → List Val → M Val
  cl : Nat → List PyData → List Val → M Val
  gl : Str → Option PyData
  gt : Str → Option (List PyData)
def isDct : PyData → Bool
  | .dict _ => true
  | _ => false
def int (i : Int) : M Val := M.pure (.d (.int i))
def bool (b : Bool) : M Val := M.pure (.d (.bool b))
def dat (v : Val) : M PyData := match v with
  | .d x => M.pure x
  | _ => M.bad
/-- data without dicts -/
def datP (v : Val) : M PyData := match v with
  | .d x => if isDct x then M.bad else M.pure x
  | _ => M.bad
def intV (v : Val) : M Int := match v with
  | .d (.int i) => M.pure i
  | _ => M.bad
def bln (v : Val) : M Bool := match v with
  | .d (.bool b) => M.pure b
  | _ => M.bad
/-- what is read off a value -/
def vw (v : Val) : M PyData := fun s => match v with
  | .d x => .ok x s
  | .o l => (match s[l]? with
    | some (.lst xs) => .ok (.list xs) s
    | _ => .bad)
  | _ => .bad
def dats : List Val → M (List PyData)
  | [] => M.pure []
  | v :: r => M.bind (datP v) fun x => M.bind (dats r) fun xs => M.pure (x :: xs)
def alloc (c : Cel) : M Val := fun s => .ok (.o s.length) (s ++ [c])
def mkL (ob : Bool) (xs : List PyData) : M Val := if ob then alloc (.lst xs) else M.pure (.d (.list xs))
def mkT (xs : List PyData) : M Val := if xs.length ≤ sizeLine then M.pure (.d (.tuple xs)) else M.bad
def freeze (v : Val) : M Val := fun s => match v with
  | .o l => (match s[l]? with
    | some (.lst xs) => .ok (.d (.list xs)) (s.set l .dead)
    | some (.dct _ ps) => .ok (.d (.dict ps)) (s.set l .dead)
    | _ => .bad)
  | .d x => .ok (.d x) s
  | _ => .bad
/-! ### operators -/
def small64 (i : Int) : Bool := decide (i.natAbs < 2 ^ 64)
def binD (op : Operator) (x y : PyData) : M Val := match op, x, y with
  | .Add, .int i, .int j => int (i + j)
  | .Add, .str i, .str j => if i.length + j.length ≤ sizeLine then M.pure (.d (.str (i ++ j))) else M.bad
  | .Add, .tuple xs, .tuple ys => mkT (xs ++ ys)
  | .Add, .list xs, .list ys => if xs.length + ys.length ≤ sizeLine then M.pure (.d (.list (xs ++ ys))) else M.bad
  | .Sub, .int i, .int j => int (i - j)
  | .Mult, .int i, .int j => if small64 i || small64 j then int (i * j) else M.bad
  | .Mult, .list xs, .int k => if decide (0 ≤ k) && decide (k ≤ 1000) && decide (xs.length ≤ 1000) then M.pure (.d (.list (List.replicate k.toNat xs).flatten)) else M.bad
  | .Mult, .str x, .int k => if decide (0 ≤ k) && decide (k ≤ 1000) && decide (x.length ≤ 1000) then M.pure (.d (.str ⟨(List.replicate k.toNat x.cps.toList).flatten.toArray⟩)) else M.bad
  | .FloorDiv, .int i, .int j => if decide (0 < j) && decide (j < 1073741824) then int (i / j) else M.bad
  | .Mod, .int i, .int j => if decide (0 < j) then int (i % j) else M.bad
  | .Pow, .int i, .int j => if decide (0 ≤ j) && decide (j ≤ 1000000) && small64 i then int (i ^ j.toNat) else M.bad
  | _, _, _ => M.bad
def eqD (x y : PyData) : M Bool := if !isDct x && !isDct y && decide (min x.depth y.depth ≤ 64) then M.pure (PyData.eqv x y) else M.bad
def ltD (x y : PyData) : M Bool := match x, y with
  | .int i, .int j => M.pure (decide (i < j))
  | .str i, .str j => M.pure (decide (i.cps.toList < j.cps.toList))
  | .tuple xs, .tuple ys => if PySem.W.alike (.tuple xs) (.tuple ys) && decide (min (PyData.depth (.tuple xs)) (PyData.depth (.tuple ys)) ≤ 64) then M.pure (PySem.W.dataLt (.tuple xs) (.tuple ys)) else M.bad
  | _, _ => M.bad
/-- whether something stands in a text, a list, a tuple -/
def inD (x y : PyData) : M Bool := match y, x with
  | .str z, .str c => M.pure (!(Builtin.Str.occurrences z c 0 z.length 1).isEmpty)
  | .list xs, _ => if !isDct x && decide (x.depth ≤ 64) then M.pure (xs.any fun y => PyData.eqv y x) else M.bad
  | .tuple xs, _ => if !isDct x && decide (x.depth ≤ 64) then M.pure (xs.any fun y => PyData.eqv y x) else M.bad
  | _, _ => M.bad
def cmpD (op : CmpOp) (x y : PyData) : M Bool := match op with
  | .Eq => eqD x y
  | .NotEq => M.bind (eqD x y) fun b => M.pure (!b)
  | .Lt => ltD x y
  | .LtE => (match x, y with
    | .int i, .int j => M.pure (decide (i ≤ j))
    | _, _ => M.bad)
  | .Gt => (match x, y with
    | .int i, .int j => M.pure (decide (j < i))
    | _, _ => M.bad)
  | .GtE => (match x, y with
    | .int i, .int j => M.pure (decide (j ≤ i))
    | _, _ => M.bad)
  | .Is => (match x, y with
    | .none, .none => M.pure true
    | _, .none => M.pure false
    | _, _ => M.bad)
  | .IsNot => (match x, y with
    | .none, .none => M.pure false
    | _, .none => M.pure true
    | _, _ => M.bad)
  | .In => inD x y
  | .NotIn => M.bind (inD x y) fun b => M.pure (!b)
/-- x op= y at a name: ints -/
def ipD (op : Operator) (x y : PyData) : M Val := match op, x, y with
  | .Add, .int i, .int j => int (i + j)
  | .Sub, .int i, .int j => int (i - j)
  | _, _, _ => M.bad
/-! ### dicts -/
/-- a dict's kind of keys (true: tuples) and its pairs -/
def dctOf (v : Val) : M (Bool × List (PyData × PyData)) := fun s => match v with
  | .d (.dict ((k, x) :: r)) => .ok (isTk k, (k, x) :: r) s
  | .o l => (match s[l]? with
    | some (.dct tk ps) => .ok (tk, ps) s
    | _ => .bad)
  | _ => .bad
/-- asked by a key -/
def askD (v : Val) (k : PyData) : M (Option PyData) := M.bind (dctOf v) fun p => if isKey k && (isTk k == p.1) then M.pure (lookD p.2 k) else M.bad
def subD (v : Val) (k : PyData) : M Val := M.bind (askD v k) fun o => match o with
  | some x => M.pure (.d x)
  | none => M.bad
def setO (l : Nat) (c : Cel) : M Unit := fun s => .ok () (s.set l c)
def storeD (v : Val) (k x : PyData) : M Unit := match v with
  | .o l => M.bind (dctOf v) fun p => if isKey k && (isTk k == p.1) && decide (p.2.length < sizeLine) then setO l (.dct p.1 (putD p.2 k x)) else M.bad
  | _ => M.bad
def inCmp (op : CmpOp) (a b : Val) : M Bool := M.bind (vw a) fun x => M.bind (vw b) fun y => cmpD op x y
/-! ### items, slices -/
def subV (a : Val) (i : PyData) : M Val := M.bind (vw a) fun x => match x, i with
  | .list xs, .int k => (match L2.atI xs k with
    | some y => M.pure (.d y)
    | none => M.bad)
  | .tuple xs, .int k => (match L2.atI xs k with
    | some y => M.pure (.d y)
    | none => M.bad)
  | .str z, .int k => (match L2.atI z.cps.toList k with
    | some c => M.pure (.d (.str ⟨#[c]⟩))
    | none => M.bad)
  | _, _ => M.bad
def part (v : PyData) : Option (Option Int) := match v with
  | .int i => some (some i)
  | _ => none
def slcV (a : Val) (lo hi : Option Int) : M Val := M.bind (vw a) fun x => match x with
  | .list xs => M.pure (.d (.list (cut xs lo hi)))
  | .tuple xs => M.pure (.d (.tuple (cut xs lo hi)))
  | .str z => M.pure (.d (.str (L2.cutS z lo hi)))
  | _ => M.bad
def revV (a : Val) : M Val := M.bind (vw a) fun x => match x with
  | .list xs => M.pure (.d (.list xs.reverse))
  | _ => M.bad
def storeL (v : Val) (i x : PyData) : M Unit := match v, i with
  | .o l, .int k => M.bind (vw v) fun y => (match y with
    | .list xs => (match L2.ixN xs.length k with
      | some j => setO l (.lst (xs.set j x))
      | none => M.bad)
    | _ => M.bad)
  | _, _ => M.bad
def isiD (x : PyData) (t : Ty) : Bool := match t, x with
  | .int, .int _ => true
  | .int, .bool _ => true
  | .bool, .bool _ => true
  | .str, .str _ => true
  | .tuple, .tuple _ => true
  | .list, .list _ => true
  | _, _ => false
/-! ### what is called by its name -/
def seqOf (x : PyData) : Option (List PyData) := match x with
  | .list xs => some xs
  | .tuple xs => some xs
  | _ => none
def zipDict (ks vs : List PyData) : List (PyData × PyData) := (ks.zip vs).foldl (fun acc p => putD acc p.1 p.2) []
def dedup (xs : List PyData) : List PyData := xs.foldl (fun acc x => if acc.any (dEq x) then acc else acc ++ [x]) []
/-- what repr may be asked of: lists, tuples -/
def repOk (x : PyData) : Bool := x.showable && decide (x.depth ≤ 60) && decide (x.shown.length ≤ sizeLine) && (seqOf x).isSome
def biV (b : Bi) (ob : Bool) (vs : List Val) : M Val := match b, vs with
  | .lenD, [v] => M.bind (dctOf v) fun p => int p.2.length
  | .len, [v] => M.bind (vw v) fun x => (match x with
    | .str z => int z.length
    | .list xs => int xs.length
    | .tuple xs => int xs.length
    | _ => M.bad)
  | .max2, [v, w] => M.bind (intV v) fun i => M.bind (intV w) fun j => int (if j > i then j else i)
  | .min2, [v, w] => M.bind (intV v) fun i => M.bind (intV w) fun j => int (if j < i then j else i)
  | .max, [v] => M.bind (vw v) fun x => (match x with
    | .list xs => (match intsOf xs with
      | some (m :: r) => int (maxI m r)
      | _ => M.bad)
    | _ => M.bad)
  | .min, [v] => M.bind (vw v) fun x => (match x with
    | .list xs => (match intsOf xs with
      | some (m :: r) => int (minI m r)
      | _ => M.bad)
    | _ => M.bad)
  | .maxVals, [.o l] => M.bind (dctOf (.o l)) fun p => (match p.1, intsOf (p.2.map (·.2)) with
    | false, some (m :: r) => int (maxI m r)
    | _, _ => M.bad)
  | .minVals, [.o l] => M.bind (dctOf (.o l)) fun p => (match p.1, intsOf (p.2.map (·.2)) with
    | false, some (m :: r) => int (minI m r)
    | _, _ => M.bad)
  | .sum, [v] => M.bind (vw v) fun x => (match x with
    | .list xs => (match intsOf xs with
      | some ns => int ns.sum
      | none => M.bad)
    | _ => M.bad)
  | .all, [v] => M.bind (vw v) fun x => (match x with
    | .list xs => (match boolsOf xs with
      | some bs => bool (bs.all id)
      | none => M.bad)
    | _ => M.bad)
  | .any, [v] => M.bind (vw v) fun x => (match x with
    | .list xs => (match boolsOf xs with
      | some bs => bool (bs.any id)
      | none => M.bad)
    | _ => M.bad)
  | .abs, [v] => M.bind (intV v) fun i => int (if i < 0 then -i else i)
  | .int, [v] => M.bind (dat v) fun x => (match x with
    | .int i => int i
    | .bool k => int (if k then 1 else 0)
    | _ => M.bad)
  | .tuple, [v] => M.bind (vw v) fun x => (match seqOf x with
    | some xs => M.pure (.d (.tuple xs))
    | none => M.bad)
  | .list, [v] => M.bind (vw v) fun x => (match seqOf x with
    | some xs => mkL ob xs
    | none => M.bad)
  | .sorted, [v] => M.bind (vw v) fun x => (match seqOf x with
    | some xs => if sortOk xs && xs.all (fun y => decide (y.depth ≤ 60)) then mkL ob (sortD xs) else M.bad
    | none => M.bad)
  | .sortedSet, [v] => M.bind (vw v) fun x => (match seqOf x with
    | some xs => (match intsOf xs with
      | some ns => if ns.length < 64 then mkL ob ((setI ns).map .int) else M.bad
      | none => M.bad)
    | none => M.bad)
  | .divmod, [v, w] => M.bind (intV v) fun i => M.bind (intV w) fun j => if decide (0 < j) && decide (j < 1073741824) then M.pure (.d (.tuple [.int (i / j), .int (i % j)])) else M.bad
  | .str, [v] => M.bind (intV v) fun i => if i.natAbs.log2 < 1920 then M.pure (.d (.str (Str.ofString (toString i)))) else M.bad
  | .dictZip, [v, w] => M.bind (vw v) fun x => M.bind (vw w) fun y => (match seqOf x, seqOf y with
    | some ks, some vs => if ks.all flatK then alloc (.dct false (zipDict ks vs)) else M.bad
    | _, _ => M.bad)
  | _, _ => M.bad
/-- who may be asked by a method -/
def rcvV (m : Me) (v : Val) : M Unit := fun s => match m, v with
  | .index, .d (.list _) => .ok () s
  | .index, .d (.tuple _) => .ok () s
  | .index, .o l => (match s[l]? with
    | some (.lst _) => .ok () s
    | _ => .bad)
  | .count, .d (.list _) => .ok () s
  | .count, .d (.tuple _) => .ok () s
  | .count, .o l => (match s[l]? with
    | some (.lst _) => .ok () s
    | _ => .bad)
  | .append, .o l => (match s[l]? with
    | some (.lst _) => .ok () s
    | _ => .bad)
  | .extend, .o l => (match s[l]? with
    | some (.lst _) => .ok () s
    | _ => .bad)
  | .remove, .o l => (match s[l]? with
    | some (.lst _) => .ok () s
    | _ => .bad)
  | .get, .d (.dict (_ :: _)) => .ok () s
  | .get, .o l => (match s[l]? with
    | some (.dct _ _) => .ok () s
    | _ => .bad)
  | _, _ => .bad
def findOk (x : PyData) : Bool := !isDct x && decide (x.depth ≤ 60)
def meV (m : Me) (a : Val) (vs : List Val) : M Val := match m, vs with
  | .index, [v] => M.bind (dat v) fun x => M.bind (vw a) fun y => (match seqOf y with
    | some xs => if findOk x then (match SeqAt.dataPlace xs x with
      | some i => int i
      | none => M.bad) else M.bad
    | none => M.bad)
  | .count, [v] => M.bind (dat v) fun x => M.bind (vw a) fun y => (match seqOf y with
    | some xs => if findOk x then int (xs.countP fun z => PyData.eqv z x : Nat) else M.bad
    | none => M.bad)
  | .get, [v] => M.bind (dat v) fun k => M.bind (askD a k) fun o => M.pure (.d (o.getD .none))
  | .get, [v, w] => M.bind (dat v) fun k => M.bind (dat w) fun z => M.bind (askD a k) fun o => M.pure (.d (o.getD z))
  | .append, [v] => M.bind (datP v) fun x => (match a with
    | .o l => M.bind (vw a) fun y => (match y with
      | .list xs => if xs.length < sizeLine then M.bind (setO l (.lst (xs ++ [x]))) fun _ => M.pure (.d .none) else M.bad
      | _ => M.bad)
    | _ => M.bad)
  | .extend, [w] => (match a with
    | .o l => M.bind (vw a) fun y => M.bind (vw w) fun z => (match y, z with
      | .list xs, .list ys => if xs.length + ys.length ≤ sizeLine then M.bind (setO l (.lst (xs ++ ys))) fun _ => M.pure (.d .none) else M.bad
      | _, _ => M.bad)
    | _ => M.bad)
  | .remove, [v] => M.bind (dat v) fun x => (match a with
    | .o l => M.bind (vw a) fun y => (match y with
      | .list xs => if findOk x then (match SeqAt.dataPlace xs x with
        | some i => M.bind (setO l (.lst (xs.eraseIdx i))) fun _ => M.pure (.d .none)
        | none => M.bad) else M.bad
      | _ => M.bad)
    | _ => M.bad)
  | _, _ => M.bad
/-! ### places -/
def rdV (ε : Env) (i : Nat) : Option PyData := match ε[i]? with
  | some (some (.v (.d x))) => some x
  | _ => none
def capD (ε : Env) : List Nat → Option (List PyData)
  | [] => some []
  | j :: js => match rdV ε j, capD ε js with
    | some x, some xs => some (x :: xs)
    | _, _ => none
def varV (ε : Env) (i : Nat) : M Val := match ε[i]? with
  | some (some (.v v)) => M.pure v
  | some (some (.nd k js)) => (match capD ε js with
    | some ws => M.pure (.c k ws)
    | none => M.bad)
  | _ => M.bad
def setE (ε : Env) (i : Nat) (v : Val) : Env := ε.set i (some (.v v))
/-- a closure is not kept by a name of the def that made it, not given back -/
def isC : Val → Bool
  | .c _ _ => true
  | _ => false
def noC (v : Val) : M Val := if isC v then M.bad else M.pure v
/-- a block's own view: its own names wiped, made functions left out -/
def wipeE (ε : Env) : List Nat → Env
  | [] => ε
  | j :: js => (wipeE ε js).set j none
def dropN : Option Slv → Option Slv
  | some (.nd _ _) => none
  | some (.v (.c _ _)) => none
  | x => x
def blkE (ε : Env) (own : List Nat) : Env := wipeE (ε.map dropN) own
/-! ### loops -/
structure Gd where
  l : Nat
  xs : List PyData
def gdOk (g : Option Gd) : M Unit := fun s => match g with
  | none => .ok () s
  | some g => (match s[g.l]? with
    | some (.lst xs) => if dEqs xs g.xs then .ok () s else .bad
    | _ => .bad)
inductive Fl where
  | nx (ε : Env) | rt (v : Val) | bk (ε : Env) | ct (ε : Env)
def catL (f : PyData → M (List (PyData × PyData))) (g : Option Gd) : List PyData → M (List (PyData × PyData))
  | [] => M.pure []
  | x :: r => M.bind (f x) fun ys => M.bind (gdOk g) fun _ => M.bind (catL f g r) fun zs => M.pure (ys ++ zs)
def forS (f : PyData → Env → M Fl) (g : Option Gd) : List PyData → Env → M Fl
  | [], ε => M.pure (.nx ε)
  | x :: r, ε => M.bind (f x ε) fun w => match w with
    | .nx ε' => M.bind (gdOk g) fun _ => forS f g r ε'
    | .ct ε' => M.bind (gdOk g) fun _ => forS f g r ε'
    | .bk ε' => M.pure (.nx ε')
    | .rt v => M.pure (.rt v)
def whlS (c : Env → M Bool) (f : Env → M Fl) : Nat → Env → M Fl
  | 0, _ => M.bad
  | n + 1, ε => M.bind (c ε) fun b => if b then M.bind (f ε) fun w => (match w with
    | .nx ε' => whlS c f n ε'
    | .ct ε' => whlS c f n ε'
    | .bk ε' => M.pure (.nx ε')
    | .rt v => M.pure (.rt v)) else M.pure (.nx ε)
/-! ### the texts' sense -/
def itV (v : Val) : M (Option Gd × List PyData) := M.bind (vw v) fun x => match v, x with
  | .o l, .list xs => M.pure (some ⟨l, xs⟩, xs)
  | _, .list xs => M.pure (none, xs)
  | _, .tuple xs => M.pure (none, xs)
  | _, .str z => M.pure (none, signs z)
  | _, _ => M.bad
def rngL (lo : Int) (n : Nat) (c : Int) : List PyData := (List.range n).map fun (i : Nat) => .int (lo + (i : Int) * c)
def bnd62 (i : Int) : Bool := decide (-(2 ^ 62) ≤ i) && decide (i < 2 ^ 62)
def numL : Nat → List PyData → List PyData
  | _, [] => []
  | k, x :: r => .tuple [.int (k : Int), x] :: numL (k + 1) r
def pairL (xs ys : List PyData) : List PyData := (xs.zip ys).map fun p => .tuple [p.1, p.2]
def isF : Val → Bool
  | .c _ _ => true
  | .g _ => true
  | _ => false
def callV (Φ : Tbl) (f : Val) (vs : List Val) : M Val := match f with
  | .c k ws => Φ.cl k ws vs
  | .g x => Φ.fn x vs
  | _ => M.bad
def perm (pm : List Nat) (vs : List Val) : Option (List Val) := match pm with
  | [] => some vs
  | _ => pm.mapM fun j => vs[j]?
def keysOf (Φ : Tbl) (f : Val) : List PyData → M (List PyData)
  | [] => M.pure []
  | x :: r => M.bind (callV Φ f [.d x]) fun k => M.bind (datP k) fun k => M.bind (keysOf Φ f r) fun ks => M.pure (k :: ks)
def sortByK (xs ks : List PyData) : List PyData := ((xs.zip ks).mergeSort (PySem.W.dataLe false (·.2))).map (·.1)
def sortF (ob : Bool) (xs ks : List PyData) : M Val := if sortOk ks && ks.all (fun y => decide (y.depth ≤ 60)) then mkL ob (sortByK xs ks) else M.bad
def sortKF (Φ : Tbl) (ob : Bool) (f : Val) (x : PyData) : M Val := match x with
  | .list xs => M.bind (M.calm (keysOf Φ f xs)) (sortF ob xs)
  | _ => M.bad
def sortRF (Φ : Tbl) (ob : Bool) (f : Val) (j : Int) : M Val := if isF f then (if bnd62 j && decide (j ≤ 1000) then M.bind (M.calm (keysOf Φ f (rngL 0 j.toNat 1))) (sortF ob (rngL 0 j.toNat 1)) else M.bad) else M.bad
def tsLen : Ts → Nat
  | .nil => 0
  | .cons _ ts => tsLen ts + 1
def isStarE : E → Bool
  | .star _ => true
  | _ => false
mutual
def evE (Φ : Tbl) : E → Env → M Val
  | .no, _ => M.bad
  | .star _, _ => M.bad
  | .var i, ε => varV ε i
  | .glob x, _ => (match Φ.gl x with
    | some c => M.pure (.d c)
    | none => M.bad)
  | .cst c, _ => M.pure (.d c)
  | .neg a, ε => M.bind (evE Φ a ε) fun v => (match v with
    | .d (.int i) => int (-i)
    | _ => M.bad)
  | .notv a, ε => M.bind (evE Φ a ε) fun v => M.bind (bln v) fun b => bool (!b)
  | .bin op a b, ε => M.bind (evE Φ a ε) fun v => M.bind (evE Φ b ε) fun w => M.bind (vw v) fun x => M.bind (vw w) fun y => binD op x y
  | .catO a b, ε => M.bind (evE Φ a ε) fun v => M.bind (evE Φ b ε) fun w => M.bind (vw v) fun x => M.bind (vw w) fun y => (match x, y with
    | .list xs, .list ys => if xs.length + ys.length ≤ sizeLine then alloc (.lst (xs ++ ys)) else M.bad
    | _, _ => M.bad)
  | .mulO a b, ε => M.bind (evE Φ a ε) fun v => M.bind (evE Φ b ε) fun w => M.bind (vw v) fun x => M.bind (vw w) fun y => (match x, y with
    | .list xs, .int k => if decide (0 ≤ k) && decide (k ≤ 1000) && decide (xs.length ≤ 1000) then alloc (.lst (List.replicate k.toNat xs).flatten) else M.bad
    | _, _ => M.bad)
  | .cmp op a b, ε => M.bind (evE Φ a ε) fun v => M.bind (evE Φ b ε) fun w => M.bind (inCmp op v w) fun c => bool c
  | .din neg a d, ε => M.bind (evE Φ a ε) fun v => M.bind (evE Φ d ε) fun w => M.bind (dat v) fun k => M.bind (askD w k) fun o => bool (if neg then !o.isSome else o.isSome)
  | .ing neg a x, ε => M.bind (evE Φ a ε) fun v => M.bind (dat v) fun d => (match Φ.gt x with
    | some xs => M.bind (inD d (.tuple xs)) fun k => bool (if neg then !k else k)
    | none => M.bad)
  | .rep neg a b, ε => M.bind (evE Φ a ε) fun v => M.bind (vw v) fun x => if repOk x then M.bind (evE Φ b ε) fun w => M.bind (vw w) fun y => (if repOk y then bool (if neg then !(decide (x.shown = y.shown)) else decide (x.shown = y.shown)) else M.bad) else M.bad
  | .chain o1 o2 a b c, ε => M.bind (evE Φ a ε) fun v => M.bind (evE Φ b ε) fun w => M.bind (inCmp o1 v w) fun k => if k then M.bind (evE Φ c ε) fun z => M.bind (inCmp o2 w z) fun c => bool c else bool false
  | .andv a b, ε => M.bind (evE Φ a ε) fun v => M.bind (bln v) fun k => if k then evE Φ b ε else bool false
  | .orv a b, ε => M.bind (evE Φ a ε) fun v => M.bind (bln v) fun k => if k then bool true else evE Φ b ε
  | .ife c a b, ε => M.bind (evE Φ c ε) fun v => M.bind (bln v) fun k => if k then evE Φ a ε else evE Φ b ε
  | .tup es, ε => M.bind (evEs Φ es ε) fun vs => M.bind (dats vs) fun xs => mkT xs
  | .tupS es, ε => M.bind (evSt Φ es ε) fun xs => mkT xs
  | .lst ob es, ε => M.bind (evEs Φ es ε) fun vs => M.bind (dats vs) fun xs => if xs.length ≤ sizeLine then mkL ob xs else M.bad
  | .lstS ob es, ε => M.bind (evSt Φ es ε) fun xs => if xs.length ≤ sizeLine then mkL ob xs else M.bad
  | .dnew tk, _ => alloc (.dct tk [])
  | .dstar a k v, ε => M.bind (evE Φ a ε) fun d => M.bind (dctOf d) fun p => M.bind (evE Φ k ε) fun k => M.bind (dat k) fun k => M.bind (evE Φ v ε) fun v => M.bind (datP v) fun v =>
      if isKey k && (isTk k == p.1) && decide (p.2.length < sizeLine) then alloc (.dct p.1 (putD p.2 k v)) else M.bad
  | .sub a i, ε => M.bind (evE Φ a ε) fun v => M.bind (evE Φ i ε) fun i => M.bind (dat i) fun i => subV v i
  | .dsub a k, ε => M.bind (evE Φ a ε) fun v => M.bind (evE Φ k ε) fun k => M.bind (dat k) fun k => subD v k
  | .slc a lo hi, ε => M.bind (evE Φ a ε) fun v => M.bind (evO Φ lo ε) fun l => M.bind (evO Φ hi ε) fun h => slcV v l h
  | .rev a, ε => M.bind (evE Φ a ε) fun v => revV v
  | .isi a t, ε => M.bind (evE Φ a ε) fun v => M.bind (datP v) fun x => bool (isiD x t)
  | .bi b ob es, ε => M.bind (evEs Φ es ε) fun vs => biV b ob vs
  | .sortK ob a f, ε => M.bind (evE Φ a ε) fun v => M.bind (evE Φ f ε) fun f => if isF f then M.bind (vw v) fun x => sortKF Φ ob f x else M.bad
  | .sortR ob a f, ε => M.bind (evE Φ a ε) fun v => (match v with
    | .d (.int j) => M.bind (evE Φ f ε) fun f => sortRF Φ ob f j
    | _ => M.bad)
  | .me m a es, ε => M.bind (evE Φ a ε) fun v => M.bind (rcvV m v) fun _ => M.bind (evEs Φ es ε) fun vs => meV m v vs
  | .call f es pm, ε => M.bind (evEs Φ es ε) fun vs => (match perm pm vs with
    | some ws => Φ.fn f ws
    | none => M.bad)
  | .callv i es, ε => M.bind (varV ε i) fun f => if isF f then M.bind (evEs Φ es ε) fun vs => callV Φ f vs else M.bad
  | .comp ob own cs e, ε => M.bind (M.calm (evCs Φ cs (fun ε => M.bind (evE Φ e ε) fun v => M.bind (datP v) fun x => M.pure [(x, .none)]) (blkE ε own))) fun ps => if ps.length ≤ sizeLine then mkL ob (ps.map (·.1)) else M.bad
  | .dcomp tk own cs k v, ε => M.bind (M.calm (evCs Φ cs (fun ε => M.bind (evE Φ k ε) fun k => M.bind (dat k) fun k => M.bind (evE Φ v ε) fun v => M.bind (datP v) fun v => if isKey k && (isTk k == tk) then M.pure [(k, v)] else M.bad) (blkE ε own))) fun ps =>
      if ps.length ≤ sizeLine then alloc (.dct tk (ps.foldl (fun acc p => putD acc p.1 p.2) [])) else M.bad
  | .clo k js, ε => (match capD ε js with
    | some ws => M.pure (.c k ws)
    | none => M.bad)
  | .fn f, _ => M.pure (.g f)
  | .frz a, ε => M.bind (evE Φ a ε) fun v => freeze v
def evEs (Φ : Tbl) : Es → Env → M (List Val)
  | .nil, _ => M.pure []
  | .cons a es, ε => M.bind (evE Φ a ε) fun v => M.bind (evEs Φ es ε) fun vs => M.pure (v :: vs)
def evSt (Φ : Tbl) : Es → Env → M (List PyData)
  | .nil, _ => M.pure []
  | .cons (.star a) es, ε => M.bind (evE Φ a ε) fun v => M.bind (vw v) fun x => (match seqOf x with
    | some xs => M.bind (evSt Φ es ε) fun ys => M.pure (xs ++ ys)
    | none => M.bad)
  | .cons a es, ε => M.bind (evE Φ a ε) fun v => M.bind (datP v) fun x => M.bind (evSt Φ es ε) fun ys => M.pure (x :: ys)
def evO (Φ : Tbl) : E → Env → M (Option Int)
  | .no, _ => M.pure none
  | a, ε => M.bind (evE Φ a ε) fun v => (match v with
    | .d (.int i) => M.pure (some i)
    | _ => M.bad)
def evI (Φ : Tbl) : I → Env → M (Option Gd × List PyData)
  | .of a, ε => M.bind (evE Φ a ε) fun v => itV v
  | .rng1 a, ε => M.bind (evE Φ a ε) fun v => (match v with
    | .d (.int j) => if bnd62 j && decide (j ≤ sizeLine) then M.pure (none, rngL 0 j.toNat 1) else M.bad
    | _ => M.bad)
  | .rng2 a b, ε => M.bind (evE Φ a ε) fun v => M.bind (evE Φ b ε) fun w => (match v, w with
    | .d (.int i), .d (.int j) => if bnd62 i && bnd62 j && decide (j - i ≤ sizeLine) then M.pure (none, rngL i (j - i).toNat 1) else M.bad
    | _, _ => M.bad)
  | .rng3 a b c, ε => M.bind (evE Φ a ε) fun v => M.bind (evE Φ b ε) fun w => M.bind (evE Φ c ε) fun z => (match v, w, z with
    | .d (.int i), .d (.int j), .d (.int (-1)) => if bnd62 i && bnd62 j && decide (i - j ≤ sizeLine) then M.pure (none, rngL i (i - j).toNat (-1)) else M.bad
    | _, _, _ => M.bad)
  | .enum a, ε => M.bind (evE Φ a ε) fun v => M.bind (dat v) fun x => (match seqOf x with
    | some xs => M.pure (none, numL 0 xs)
    | none => M.bad)
  | .zip a b, ε => M.bind (evE Φ a ε) fun v => M.bind (evE Φ b ε) fun w => M.bind (dat v) fun x => M.bind (dat w) fun y => (match seqOf x, seqOf y with
    | some xs, some ys => M.pure (none, pairL xs ys)
    | _, _ => M.bad)
  | .items a, ε => M.bind (evE Φ a ε) fun v => (match v with
    | .d (.dict (p :: r)) => M.pure (none, (p :: r).map fun q => .tuple [q.1, q.2])
    | _ => M.bad)
  | .vals a, ε => M.bind (evE Φ a ε) fun v => (match v with
    | .d (.dict (p :: r)) => M.pure (none, (p :: r).map (·.2))
    | _ => M.bad)
  | .keys a, ε => M.bind (evE Φ a ε) fun v => (match v with
    | .d (.dict (p :: r)) => M.pure (none, (p :: r).map (·.1))
    | _ => M.bad)
def evC (Φ : Tbl) : E → Env → M Bool
  | .no, _ => M.pure true
  | a, ε => M.bind (evE Φ a ε) fun v => bln v
def evCs (Φ : Tbl) : Cs → (Env → M (List (PyData × PyData))) → Env → M (List (PyData × PyData))
  | .nil, k, ε => k ε
  | .cons t it c cs, k, ε => M.bind (evI Φ it ε) fun q => M.bind (gdOk q.1) fun _ => catL (fun x => M.bind (evT Φ t x ε) fun ε' => M.bind (evC Φ c ε') fun b => if b then evCs Φ cs k ε' else M.pure []) q.1 q.2
def evT (Φ : Tbl) : T → PyData → Env → M Env
  | .nm i, x, ε => M.pure (setE ε i (.d x))
  | .tp ts, x, ε => (match x with
    | .tuple xs => if xs.length = tsLen ts then evTs Φ ts xs ε else M.bad
    | _ => M.bad)
  | .sb a i, x, ε => M.bind (evE Φ a ε) fun v => M.bind (evE Φ i ε) fun i => M.bind (dat i) fun i => M.bind (storeL v i x) fun _ => M.pure ε
  | .ds a k, x, ε => M.bind (evE Φ a ε) fun v => M.bind (evE Φ k ε) fun k => M.bind (dat k) fun k => M.bind (storeD v k x) fun _ => M.pure ε
def evTs (Φ : Tbl) : Ts → List PyData → Env → M Env
  | .nil, [], ε => M.pure ε
  | .cons t ts, x :: r, ε => M.bind (evT Φ t x ε) fun ε' => evTs Φ ts r ε'
  | _, _, _ => M.bad
end
def evPar : Ts → List Val → Env → Option Env
  | .nil, [], ε => some ε
  | .cons (.nm i) ts, v :: r, ε => if isC v then none else evPar ts r (setE ε i v)
  | _, _, _ => none
mutual
def evS (Φ : Tbl) : S → Env → M Fl
  | .ex a, ε => M.bind (evE Φ a ε) fun _ => M.pure (.nx ε)
  | .asg (.nm i) a, ε => M.bind (evE Φ a ε) fun v => M.bind (noC v) fun v => M.pure (.nx (setE ε i v))
  | .asg t a, ε => M.bind (evE Φ a ε) fun v => M.bind (datP v) fun x => M.bind (evT Φ t x ε) fun ε' => M.pure (.nx ε')
  | .par ts es, ε => M.bind (evEs Φ es ε) fun vs => (match evPar ts vs ε with
    | some ε' => M.pure (.nx ε')
    | none => M.bad)
  | .aug i op a, ε => (match rdV ε i with
    | some x => M.bind (evE Φ a ε) fun w => M.bind (dat w) fun y => M.bind (ipD op x y) fun z => M.bind (noC z) fun z => M.pure (.nx (setE ε i z))
    | none => M.bad)
  | .augs a i op b, ε => M.bind (evE Φ a ε) fun v => M.bind (evE Φ i ε) fun k => M.bind (dat k) fun k => M.bind (subV v k) fun o => M.bind (evE Φ b ε) fun w => M.bind (dat o) fun x => M.bind (dat w) fun y => M.bind (binD op x y) fun z => M.bind (datP z) fun z => M.bind (storeL v k z) fun _ => M.pure (.nx ε)
  | .ret a, ε => M.bind (evE Φ a ε) fun v => M.bind (noC v) fun v => M.pure (.rt v)
  | .retN, ε => M.pure (.rt (.d .none))
  | .ifs c a b, ε => M.bind (evE Φ c ε) fun v => M.bind (bln v) fun k => if k then evSs Φ a ε else evSs Φ b ε
  | .for_ t it b, ε => M.bind (evI Φ it ε) fun q => M.bind (gdOk q.1) fun _ => forS (fun x ε => M.bind (evT Φ t x ε) fun ε' => evSs Φ b ε') q.1 q.2 ε
  | .whl n c b, ε => whlS (fun ε => M.bind (evE Φ c ε) fun v => bln v) (fun ε => evSs Φ b ε) n ε
  | .pass, ε => M.pure (.nx ε)
  | .brk, ε => M.pure (.bk ε)
  | .cnt, ε => M.pure (.ct ε)
  | .ndef i k js, ε => M.pure (.nx (ε.set i (some (.nd k js))))
  | .raise x f a, ε => M.bind (evE Φ a ε) fun v => M.bind (dat v) fun y => M.raise ⟨x, [(f, y)]⟩
  | .raise0 x, _ => M.raise ⟨x, []⟩
def evSs (Φ : Tbl) : Ss → Env → M Fl
  | .nil, ε => M.pure (.nx ε)
  | .cons s ss, ε => M.bind (evS Φ s ε) fun w => match w with
    | .nx ε' => evSs Φ ss ε'
    | w => M.pure w
end
/-! ### a whole text -/
structure Prog where
  fns : Str → Option Fn
  cls : Nat → Option Fn
  gl : Str → Option PyData
  gt : Str → Option (List PyData)
def startE (n : Nat) (vs : List Val) : Env := vs.map (fun v => some (.v v)) ++ List.replicate (n - vs.length) none
def runF (Φ : Tbl) (f : Fn) (vs : List Val) : M Val := if vs.length = f.pars then M.bind (evSs Φ f.body (startE f.slots vs)) fun w => (match w with
    | .rt v => noC v
    | .nx _ => M.pure (.d .none)
    | _ => M.bad) else M.bad
def tbl (p : Prog) : Nat → Tbl
  | 0 => ⟨fun _ _ => M.bad, fun _ _ _ => M.bad, p.gl, p.gt⟩
  | k + 1 => ⟨fun f vs => (match p.fns f with
      | some fn => runF (tbl p k) fn vs
      | none => M.bad),
    fun c ws vs => (match p.cls c with
      | some fn => runF (tbl p k) fn (vs ++ ws.map .d)
      | none => M.bad), p.gl, p.gt⟩
end Fx

set_option Elab.async false
set_option linter.all false
set_option maxRecDepth 100000
set_option maxHeartbeats 1000000
/-! Fx3: how the model's heap bears the values: data, the store; what stays. -/
namespace Fx
open PySem PySem.Spec PyProof.Rows L2 NdefX

/-! ### data in the heap -/
def keyD : Key → PyData
  | .inl i => .int i
  | .inr x => .str x
def tkD (ks : List Key) : PyData := .tuple (ks.map keyD)
structure Pw where
  P : Program
  w : World
abbrev kp (X : Cx) : Pw := ⟨X.prog, X.w⟩
/-- a dict at a whose keys are tuples: keys, the places of the keys' tuples, what is kept -/
def TD (K : Pw) (a : Addr) (ks : List (List Key × Addr × V)) : HO := .ext fun h => ks.length ≤ sizeLine ∧ (a == sysModules) = false ∧ ∃ xs : List (List Key × Addr × Value),
  Paired (fun (p : List Key × Addr × V) (q : List Key × Addr × Value) => p.1 = q.1 ∧ p.2.1 = q.2.1 ∧ RelV p.2.2 q.2.2) ks xs ∧
  ∃ o es ep, h.get? a = some o ∧ o.ExactDict ∧ o.data = .dict es ep ∧ es.toList = xs.map (entryOfKey (tupleKind (mixKind K.P K.w))) ∧ (xs.map (·.1)).Nodup
mutual
/-- data without dicts -/
inductive Pl (K : Pw) (H : Hp) : V → PyData → Prop
  | non : Pl K H .non .none
  | bl (b : Bool) : Pl K H (.bl b) (.bool b)
  | int (i : Int) : Pl K H (.int i) (.int i)
  | str (x : Str) : PyData.strOk x = true → x.length ≤ sizeLine → Pl K H (.str x) (.str x)
  | lst {a : Addr} {xs : List V} {ds : List PyData} : Rd H a (.lst xs) → xs.length ≤ sizeLine → PlA K H xs ds → Pl K H (.ref a) (.list ds)
  | tup {a : Addr} {o : PySem.Obj} {xs : List V} {ds : List PyData} : H a = some (.frz o (.tup xs)) → o.dict = none → xs.length ≤ sizeLine → PlA K H xs ds → Pl K H (.ref a) (.tuple ds)
inductive PlA (K : Pw) (H : Hp) : List V → List PyData → Prop
  | nil : PlA K H [] []
  | cons {v : V} {vs : List V} {d : PyData} {ds : List PyData} : Pl K H v d → PlA K H vs ds → PlA K H (v :: vs) (d :: ds)
end
abbrev KP (K : Pw) (H : Hp) : List (Key × V) → List (PyData × PyData) → Prop := Paired fun p q => q.1 = keyD p.1 ∧ (∀ x, p.1 = .inr x → PyData.strOk x = true ∧ x.length ≤ sizeLine) ∧ Pl K H p.2 q.2
abbrev TP (K : Pw) (H : Hp) : List (List Key × Addr × V) → List (PyData × PyData) → Prop := Paired fun p q => q.1 = tkD p.1 ∧ Pl K H (.ref p.2.1) q.1 ∧ Pl K H p.2.2 q.2
/-- data -/
inductive Rp (K : Pw) (H : Hp) : V → PyData → Prop
  | pl {v : V} {d : PyData} : Pl K H v d → Rp K H v d
  | dk {a : Addr} {kvs : List (Key × V)} {ps : List (PyData × PyData)} : H a = some (.dK kvs) → KP K H kvs ps → Rp K H (.ref a) (.dict ps)
  | dt {a : Addr} {kvs : List (List Key × Addr × V)} {ps : List (PyData × PyData)} : H a = some (TD K a kvs) → TP K H kvs ps → Rp K H (.ref a) (.dict ps)

section
variable {K : Pw} {H H' : Hp}
theorem PlA.length : ∀ {vs : List V} {ds : List PyData}, PlA K H vs ds → vs.length = ds.length
  | _, _, .nil => rfl
  | _, _, .cons _ t => by rw [List.length_cons, List.length_cons, PlA.length t]
theorem PlA.get : ∀ {vs : List V} {ds : List PyData} {i : Nat} {d : PyData}, PlA K H vs ds → ds[i]? = some d → ∃ v, vs[i]? = some v ∧ Pl K H v d
  | _, _, _, _, .nil, e => by simp at e
  | _, _, 0, _, .cons r _, e => by simp at e; subst e; exact ⟨_, rfl, r⟩
  | _, _, i + 1, _, .cons _ t, e => by
    obtain ⟨v, h1, h2⟩ := PlA.get (i := i) t (by simpa using e)
    exact ⟨v, by simpa using h1, h2⟩
theorem PlA.getV : ∀ {vs : List V} {ds : List PyData} {i : Nat} {v : V}, PlA K H vs ds → vs[i]? = some v → ∃ d, ds[i]? = some d ∧ Pl K H v d
  | _, _, _, _, .nil, e => by simp at e
  | _, _, 0, _, .cons r _, e => by simp at e; subst e; exact ⟨_, rfl, r⟩
  | _, _, i + 1, _, .cons _ t, e => by
    obtain ⟨v, h1, h2⟩ := PlA.getV (i := i) t (by simpa using e)
    exact ⟨v, by simpa using h1, h2⟩
theorem PlA.append : ∀ {vs ws : List V} {ds es : List PyData}, PlA K H vs ds → PlA K H ws es → PlA K H (vs ++ ws) (ds ++ es)
  | _, _, _, _, .nil, s => s
  | _, _, _, _, .cons r t, s => .cons r (PlA.append t s)
theorem PlA.take : ∀ {vs : List V} {ds : List PyData} (n : Nat), PlA K H vs ds → PlA K H (vs.take n) (ds.take n)
  | _, _, 0, _ => by simp only [List.take_zero]; exact .nil
  | _, _, _ + 1, .nil => .nil
  | _, _, n + 1, .cons r t => .cons r (PlA.take n t)
theorem PlA.drop : ∀ {vs : List V} {ds : List PyData} (n : Nat), PlA K H vs ds → PlA K H (vs.drop n) (ds.drop n)
  | _, _, 0, r => r
  | _, _, _ + 1, .nil => .nil
  | _, _, n + 1, .cons _ t => PlA.drop n t
theorem PlA.set : ∀ {vs : List V} {ds : List PyData} {v : V} {d : PyData} (n : Nat), PlA K H vs ds → Pl K H v d → PlA K H (vs.set n v) (ds.set n d)
  | _, _, _, _, _, .nil, _ => .nil
  | _, _, _, _, 0, .cons _ t, r => .cons r t
  | _, _, _, _, n + 1, .cons r t, q => .cons r (PlA.set n t q)
theorem PlA.erase : ∀ {vs : List V} {ds : List PyData} (n : Nat), PlA K H vs ds → PlA K H (vs.eraseIdx n) (ds.eraseIdx n)
  | _, _, _, .nil => .nil
  | _, _, 0, .cons _ t => t
  | _, _, n + 1, .cons r t => .cons r (PlA.erase n t)
theorem PlA.reverse : ∀ {vs : List V} {ds : List PyData}, PlA K H vs ds → PlA K H vs.reverse ds.reverse
  | _, _, .nil => .nil
  | _, _, .cons r t => by rw [List.reverse_cons, List.reverse_cons]; exact (PlA.reverse t).append (.cons r .nil)
theorem PlA.rep {vs : List V} {ds : List PyData} (h : PlA K H vs ds) : ∀ k : Nat, PlA K H (List.replicate k vs).flatten (List.replicate k ds).flatten
  | 0 => .nil
  | k + 1 => by rw [List.replicate_succ, List.replicate_succ, List.flatten_cons, List.flatten_cons]; exact h.append (PlA.rep h k)
theorem PlA.paired : ∀ {vs : List V} {ds : List PyData}, PlA K H vs ds → Paired (Pl K H) vs ds
  | _, _, .nil => .nil
  | _, _, .cons r t => .cons r (PlA.paired t)
theorem PlA.of : ∀ {vs : List V} {ds : List PyData}, Paired (Pl K H) vs ds → PlA K H vs ds
  | _, _, .nil => .nil
  | _, _, .cons r t => .cons r (PlA.of t)

/-- what is said of H is said of H', where each object is the same or locked -/
def Sub (H H' : Hp) : Prop := ∀ a o, H a = some o → H' a = some o ∨ (Mut (some o) ∧ ∃ od, H' a = some (.frz od o)) ∨ ∃ ps ps', o = .tbl ps ∧ H' a = some (.tbl ps')
theorem Sub.rd (s : Sub H H') {a : Addr} {u : HO} (hu : ∀ od v, u ≠ .frz od v) (h : Rd H a u) (ht : ∀ ps, u ≠ .tbl ps := by intro _ z; first | cases z | (unfold TD at z; cases z)) : Rd H' a u := by
  rcases h with h | ⟨o, h⟩
  · rcases s a u h with e | ⟨_, od, e⟩ | ⟨ps, _, e, _⟩
    · exact .inl e
    · exact .inr ⟨od, e⟩
    · exact absurd e (ht ps)
  · rcases s a _ h with e | ⟨m, od, e⟩ | ⟨ps, _, e, _⟩
    · exact .inr ⟨o, e⟩
    · exact absurd m (by intro z; exact z)
    · cases e
theorem Sub.sqL {K : PySem.W.Frag} (s : Sub H H') {a : Addr} {xs : List V} (h : SqL K H a xs) : SqL K H' a xs := by
  rcases h with h | h
  · exact .inl (s.rd (fun _ _ z => by cases z) h)
  · exact .inr h
theorem Sub.sqT {K : PySem.W.Frag} (s : Sub H H') {a : Addr} {xs : List V} (h : SqT K H a xs) : SqT K H' a xs := by
  rcases h with h | h
  · exact .inl (s.rd (fun _ _ z => by cases z) h)
  · exact .inr h
theorem Sub.tup (s : Sub H H') {a : Addr} {o : PySem.Obj} {xs : List V} (h : H a = some (.frz o (.tup xs))) : H' a = some (.frz o (.tup xs)) := by
  rcases s a _ h with e | ⟨m, _⟩ | ⟨ps, _, e, _⟩
  · exact e
  · exact absurd m (by intro z; exact z)
  · cases e
theorem Sub.refl : Sub H H := fun _ _ e => .inl e
mutual
theorem Pl.sub (s : Sub H H') : ∀ (d : PyData) (v : V), Pl K H v d → Pl K H' v d
  | .none, _, h => by cases h; exact .non
  | .bool _, _, h => by cases h; exact .bl _
  | .int _, _, h => by cases h; exact .int _
  | .str _, _, h => by cases h with | str _ a b => exact .str _ a b
  | .list ds, _, h => by cases h with | lst a b c => exact .lst (s.rd (fun _ _ z => by cases z) a) b (PlA.sub s ds _ c)
  | .tuple ds, _, h => by cases h with | tup a n b c => exact .tup (s.tup a) n b (PlA.sub s ds _ c)
  | .dict _, _, h => by cases h
theorem PlA.sub (s : Sub H H') : ∀ (ds : List PyData) (vs : List V), PlA K H vs ds → PlA K H' vs ds
  | [], _, h => by cases h; exact .nil
  | d :: ds, _, h => by cases h with | cons a b => exact .cons (Pl.sub s d _ a) (PlA.sub s ds _ b)
end
/-- more stands -/
def More (H H' : Hp) : Prop := ∀ a o, H a = some o → H' a = some o
theorem More.sub (m : More H H') : Sub H H' := fun a o e => .inl (m a o e)
theorem More.refl : More H H := fun _ _ e => e
theorem More.trans {H'' : Hp} (a : More H H') (b : More H' H'') : More H H'' := fun x o e => b x o (a x o e)
theorem Pl.more {v : V} {d : PyData} (m : More H H') (h : Pl K H v d) : Pl K H' v d := Pl.sub m.sub d v h
theorem PlA.more {vs : List V} {ds : List PyData} (m : More H H') (h : PlA K H vs ds) : PlA K H' vs ds := PlA.sub m.sub ds vs h
theorem KP.more {a : List (Key × V)} {ps : List (PyData × PyData)} (m : More H H') (h : KP K H a ps) : KP K H' a ps := Paired.mapP h fun _ _ z => ⟨z.1, z.2.1, z.2.2.more m⟩
theorem TP.more {a : List (List Key × Addr × V)} {ps : List (PyData × PyData)} (m : More H H') (h : TP K H a ps) : TP K H' a ps := Paired.mapP h fun _ _ z => ⟨z.1, z.2.1.more m, z.2.2.more m⟩
theorem KP.sub {a : List (Key × V)} {ps : List (PyData × PyData)} (m : Sub H H') (h : KP K H a ps) : KP K H' a ps := Paired.mapP h fun _ _ z => ⟨z.1, z.2.1, Pl.sub m _ _ z.2.2⟩
theorem TP.sub {a : List (List Key × Addr × V)} {ps : List (PyData × PyData)} (m : Sub H H') (h : TP K H a ps) : TP K H' a ps := Paired.mapP h fun _ _ z => ⟨z.1, Pl.sub m _ _ z.2.1, Pl.sub m _ _ z.2.2⟩
theorem Rp.more {v : V} {d : PyData} (m : More H H') (h : Rp K H v d) : Rp K H' v d := by
  cases h with
  | pl h => exact .pl (h.more m)
  | dk a b => exact .dk (m _ _ a) (KP.more m b)
  | dt a b => exact .dt (m _ _ a) (TP.more m b)
theorem Rp.plain {v : V} {d : PyData} (h : Rp K H v d) (hd : isDct d = false) : Pl K H v d := by
  cases h with
  | pl h => exact h
  | dk a b => cases hd
  | dt a b => cases hd
mutual
theorem Pl.dp {F : PySem.W.Frag} : ∀ (d : PyData) (v : V), Pl K H v d → Dp F H v d
  | .none, _, h => by cases h; exact .non
  | .bool _, _, h => by cases h; exact .bl _
  | .int _, _, h => by cases h; exact .int _
  | .str _, _, h => by cases h; exact .str _
  | .list ds, _, h => by cases h with | lst a b c => exact .lst (.inl a) (PlA.dp ds _ c)
  | .tuple ds, _, h => by cases h with | tup a n b c => exact .tup (.inl (.inr ⟨_, a⟩)) (PlA.dp ds _ c)
  | .dict _, _, h => by cases h
theorem PlA.dp {F : PySem.W.Frag} : ∀ (ds : List PyData) (vs : List V), PlA K H vs ds → DpAll F H vs ds
  | [], _, h => by cases h; exact .nil
  | d :: ds, _, h => by cases h with | cons a b => exact .cons (Pl.dp d _ a) (PlA.dp ds _ b)
end
mutual
theorem Pl.lay : ∀ (d : PyData) (v : V), Pl K H v d → d.canLay0 = true
  | .none, _, h => by simp only [PyData.canLay0]
  | .bool _, _, h => by simp only [PyData.canLay0]
  | .int _, _, h => by simp only [PyData.canLay0]
  | .str _, _, h => by cases h with | str _ a b => simpa only [PyData.canLay0] using a
  | .list ds, _, h => by cases h with | lst a b c => simpa only [PyData.canLay0] using PlA.lay ds _ c
  | .tuple ds, _, h => by cases h with | tup a n b c => simpa only [PyData.canLay0] using PlA.lay ds _ c
  | .dict _, _, h => by cases h
theorem PlA.lay : ∀ (ds : List PyData) (vs : List V), PlA K H vs ds → PyData.canLayAll0 ds = true
  | [], _, h => by simp only [PyData.canLayAll0]
  | d :: ds, _, h => by cases h with | cons a b => simp only [PyData.canLayAll0, Pl.lay d _ a, PlA.lay ds _ b, Bool.and_self]
end
end

/-! ### the store in the heap -/
structure Wd where
  ρ : Nat → Addr
  Hs : Hp
def CelR (K : Pw) (Hs : Hp) (a : Addr) (o : HO) : Cel → Prop
  | .dead => True
  | .lst xs => ∃ vs, o = .lst vs ∧ vs.length ≤ sizeLine ∧ PlA K Hs vs xs
  | .dct false ps => ∃ kvs, o = .dK kvs ∧ KP K Hs kvs ps
  | .dct true ps => ∃ kvs, o = TD K a kvs ∧ TP K Hs kvs ps
def live (st : Sto) (l : Nat) : Prop := ∃ c, st[l]? = some c ∧ c ≠ .dead
structure Rel (T : List NTab) (K : Pw) (W : Wd) (H : Hp) (st : Sto) : Prop where
  sub : Sub W.Hs H
  cel : ∀ l c, st[l]? = some c → c ≠ .dead → W.Hs (W.ρ l) = none ∧ ∃ o, H (W.ρ l) = some o ∧ CelR K W.Hs (W.ρ l) o c
  inj : ∀ l m, live st l → live st m → W.ρ l = W.ρ m → l = m
  tab : TabsN T H
/-- what stays from one state to a later one -/
structure Ext (W : Wd) (H : Hp) (st : Sto) (W' : Wd) (H' : Hp) (st' : Sto) : Prop where
  hs : More W.Hs W'.Hs
  rho : ∀ l, l < st.length → W'.ρ l = W.ρ l
  len : st.length ≤ st'.length
  frame : ∀ a o, H a = some o → (∀ l, live st l → a ≠ W.ρ l) → (∀ ps, o ≠ .tbl ps) → H' a = some o
  new : ∀ l, st.length ≤ l → l < st'.length → H (W'.ρ l) = none
  dead : ∀ l, l < st.length → live st' l → live st l
  kept : ∀ a, H' a = none → H a = none
  told : ∀ a, W'.Hs a ≠ none → W.Hs a ≠ none ∨ H a = none ∨ ∃ l, live st l ∧ a = W.ρ l
section
variable {W W' W'' : Wd} {H H' H'' : Hp} {st st' st'' : Sto}
theorem live.lt {l : Nat} (h : live st l) : l < st.length := by
  obtain ⟨c, h, _⟩ := h
  exact (List.getElem?_eq_some_iff.mp h).1
theorem Ext.refl : Ext W H st W H st := ⟨More.refl, fun _ _ => rfl, Nat.le_refl _, fun _ _ h _ _ => h, fun l h1 h2 => absurd h2 (Nat.not_lt.mpr h1), fun _ _ h => h, fun _ h => h, fun _ h => .inl h⟩
theorem Ext.trans (a : Ext W H st W' H' st') (b : Ext W' H' st' W'' H'' st'') : Ext W H st W'' H'' st'' where
  hs := a.hs.trans b.hs
  rho := fun l h => (b.rho l (Nat.lt_of_lt_of_le h a.len)).trans (a.rho l h)
  len := Nat.le_trans a.len b.len
  frame := fun x o h n t => by
    refine b.frame x o (a.frame x o h n t) (fun l hl z => ?_) t
    by_cases q : l < st.length
    · exact n l (a.dead l q hl) (by rw [z, a.rho l q])
    · have e := a.new l (Nat.not_lt.mp q) hl.lt
      rw [← z, h] at e
      cases e
  new := fun l h1 h2 => by
    by_cases q : l < st'.length
    · rw [b.rho l q]; exact a.new l h1 q
    · exact a.kept _ (b.new l (Nat.not_lt.mp q) h2)
  dead := fun l h hl => a.dead l h (b.dead l (Nat.lt_of_lt_of_le h a.len) hl)
  kept := fun x h => a.kept x (b.kept x h)
  told := fun x h => by
    rcases b.told x h with h | h | ⟨l, hl, e⟩
    · exact a.told x h
    · exact .inr (.inl (a.kept x h))
    · by_cases q : l < st.length
      · exact .inr (.inr ⟨l, a.dead l q hl, by rw [e, a.rho l q]⟩)
      · exact .inr (.inl (by rw [e]; exact a.new l (Nat.not_lt.mp q) hl.lt))
end
end Fx

set_option Elab.async false
set_option linter.all false
set_option maxRecDepth 100000
set_option maxHeartbeats 1000000
/-! Fx4: how the store's relation goes on: a new thing, a thing written, a thing that is data from now on. -/
namespace Fx
open PySem PySem.Spec PyProof.Rows L2 NdefX LamX
/-- what a cell may be -/
def isCel (o : HO) : Prop := (∃ xs, o = .lst xs) ∨ (∃ kvs, o = .dK kvs) ∨ ∃ K a ks, o = TD K a ks
/-- a heap of one thing, many times -/
def many (n : Nat) (o : PySem.Obj) : Heap := { objs := Array.replicate n o }
theorem many_get {n a : Nat} {o u : PySem.Obj} (h : (many n o).get? a = some u) : u = o := by
  unfold Heap.get? many at h
  simp only [Array.getElem?_replicate] at h
  split at h
  · cases h
  · rename_i e
    split at h
    · cases h; exact rfl
    · cases h
theorem many_at {n a : Nat} {o : PySem.Obj} (h : a < n) (ho : o.data ≠ .freed) : (many n o).get? a = some o := by
  unfold Heap.get? many
  simp only [Array.getElem?_replicate, if_pos h]
  split
  · rename_i e; cases e; exact absurd rfl ho
  · rfl
theorem td_ne {K : Pw} {a : Addr} {ks : List (List Key × Addr × V)} {φ : Heap → Prop} (n : Nat) (o : PySem.Obj) (ho : ∀ es ep, o.data ≠ .dict es ep) (h : φ (many n o)) : HO.ext φ ≠ TD K a ks := fun e => by
  unfold TD at e
  injection e with e
  rw [e] at h
  obtain ⟨_, _, _, _, u, es, ep, h1, _, h2, _⟩ := h
  rw [many_get h1] at h2
  exact ho _ _ h2
theorem not_cel_ext {φ : Heap → Prop} (n : Nat) (o : PySem.Obj) (ho : ∀ es ep, o.data ≠ .dict es ep) (h : φ (many n o)) : ¬ isCel (.ext φ) := fun z => by
  rcases z with ⟨_, z⟩ | ⟨_, z⟩ | ⟨_, _, _, z⟩
  · cases z
  · cases z
  · exact td_ne n o ho h z
theorem not_cel_code (c : Addr) (q : Str) : ¬ isCel (CodeO c q) := not_cel_ext (c + 1) { cls := .none, data := .fields #[.none, .str q 0] } (fun _ _ z => by cases z) ⟨_, _, _, many_at (Nat.lt_succ_self _) (fun z => by cases z), rfl, rfl⟩
theorem not_cel_tbl (ps : Array Value) : ¬ isCel (.tbl ps) := fun z => by
  rcases z with ⟨_, z⟩ | ⟨_, z⟩ | ⟨_, _, _, z⟩ <;> cases z
theorem not_cel_frz (o : PySem.Obj) (u : HO) : ¬ isCel (.frz o u) := fun z => by
  rcases z with ⟨_, z⟩ | ⟨_, z⟩ | ⟨_, _, _, z⟩ <;> cases z
section
variable {T : List NTab} {K : Pw} {W : Wd} {H H' : Hp} {st : Sto} {o o' : HO} {c c' : Cel} {l : Nat} {p : Addr}
theorem CelR.isCel {a : Addr} (h : CelR K W.Hs a o c) (hc : c ≠ .dead) : isCel o := by
  cases c with
  | dead => exact absurd rfl hc
  | lst xs => obtain ⟨vs, rfl, _⟩ := h; exact .inl ⟨_, rfl⟩
  | dct tk ps => cases tk with
    | false => obtain ⟨kvs, rfl, _⟩ := h; exact .inr (.inl ⟨_, rfl⟩)
    | true => obtain ⟨kvs, rfl, _⟩ := h; exact .inr (.inr ⟨_, _, _, rfl⟩)
theorem CelR.more {Hs Hs' : Hp} {a : Addr} (m : More Hs Hs') (h : CelR K Hs a o c) : CelR K Hs' a o c := by
  cases c with
  | dead => trivial
  | lst xs => obtain ⟨vs, e, z, q⟩ := h; exact ⟨vs, e, z, q.more m⟩
  | dct tk ps => cases tk with
    | false => obtain ⟨kvs, e, q⟩ := h; exact ⟨kvs, e, KP.more m q⟩
    | true => obtain ⟨kvs, e, q⟩ := h; exact ⟨kvs, e, TP.more m q⟩
theorem TabsN.but (t : TabsN T H) (e : ∀ b u, H b = some u → ¬ Fx.isCel u → H' b = some u) : TabsN T H' := fun p hp => by
  obtain ⟨ps, h1, h2, h3⟩ := t p hp
  refine ⟨ps, e _ _ h1 (not_cel_tbl _), h2, fun pos cv hc => ?_⟩
  obtain ⟨c, e1, e2⟩ := h3 pos cv hc
  exact ⟨c, e1, e _ _ e2 (not_cel_code _ _)⟩
theorem more_upd (h : H p = none) : More H (upd H p o) := fun a u e => by
  rw [upd_ne (ne_of_none e h)]
  exact e
theorem Rel.hsNone (R : Rel T K W H st) (h : H p = none) : W.Hs p = none := by
  cases e : W.Hs p with
  | none => rfl
  | some u =>
    rcases R.sub p u e with z | ⟨_, od, z⟩ | ⟨_, _, _, z⟩ <;> rw [h] at z <;> cases z
theorem Rel.ne_new (R : Rel T K W H st) (h : H p = none) (hl : live st l) : p ≠ W.ρ l := fun z => by
  obtain ⟨c, e, hc⟩ := hl
  obtain ⟨_, o, e2, _⟩ := R.cel l c e hc
  rw [← z, h] at e2
  cases e2
/-- a new thing, of which nobody is told -/
theorem Rel.misc (R : Rel T K W H st) (h : H p = none) : Rel T K W (upd H p o) st where
  sub := fun a u e => (R.sub a u e).imp (more_upd h a u) (Or.imp (fun ⟨m, od, z⟩ => ⟨m, od, more_upd h a _ z⟩) fun ⟨ps, ps', q, z⟩ => ⟨ps, ps', q, more_upd h a _ z⟩)
  cel := fun l c e hc => by
    obtain ⟨n, o, e2, q⟩ := R.cel l c e hc
    exact ⟨n, o, more_upd h _ _ e2, q⟩
  inj := R.inj
  tab := R.tab.ext (more_upd h)
theorem Ext.misc (h : H p = none) : Ext W H st W (upd H p o) st :=
  ⟨More.refl, fun _ _ => rfl, Nat.le_refl _, fun a u e _ _ => more_upd h a u e, fun l h1 h2 => absurd h2 (Nat.not_lt.mpr h1), fun _ _ z => z, fun a z => upd_none z, fun _ z => .inl z⟩
/-- new data -/
def Wd.add (W : Wd) (p : Addr) (o : HO) : Wd := ⟨W.ρ, upd W.Hs p o⟩
theorem Rel.data (R : Rel T K W H st) (h : H p = none) : Rel T K (W.add p o) (upd H p o) st where
  sub := fun a u e => by
    have e : upd W.Hs p o a = some u := e
    by_cases z : a = p
    · rw [z, upd_same] at e
      cases e
      rw [z]
      exact .inl upd_same
    · rw [upd_ne z] at e
      rw [upd_ne z]
      exact R.sub a u e
  cel := fun l c e hc => by
    obtain ⟨n, u, e2, q⟩ := R.cel l c e hc
    have ne : W.ρ l ≠ p := ne_of_none e2 h
    refine ⟨?_, u, ?_, q.more (more_upd (R.hsNone h))⟩
    · show upd W.Hs p o (W.ρ l) = none
      rw [upd_ne ne]
      exact n
    · show upd H p o (W.ρ l) = some u
      rw [upd_ne ne]
      exact e2
  inj := R.inj
  tab := R.tab.ext (more_upd h)
theorem Ext.data (R : Rel T K W H st) (h : H p = none) : Ext W H st (W.add p o) (upd H p o) st :=
  ⟨more_upd (R.hsNone h), fun _ _ => rfl, Nat.le_refl _, fun a u e _ _ => more_upd h a u e, fun l h1 h2 => absurd h2 (Nat.not_lt.mpr h1), fun _ _ z => z, fun a z => upd_none z, fun a z => by
    by_cases e : a = p
    · rw [e]; exact .inr (.inl h)
    · have z : upd W.Hs p o a ≠ none := z
      rw [upd_ne e] at z
      exact .inl z⟩
theorem Wd.at_add : (W.add p o).Hs p = some o := upd_same
/-- a new thing of the store -/
def Wd.cell (W : Wd) (n : Nat) (p : Addr) : Wd := ⟨fun l => if l = n then p else W.ρ l, W.Hs⟩
theorem get_snoc {st : Sto} {c : Cel} {l : Nat} {e : Cel} (h : (st ++ [c])[l]? = some e) : (l < st.length ∧ st[l]? = some e) ∨ (l = st.length ∧ e = c) := by
  by_cases q : l < st.length
  · rw [List.getElem?_append_left q] at h
    exact .inl ⟨q, h⟩
  · rw [List.getElem?_append_right (Nat.not_lt.mp q)] at h
    by_cases z : l = st.length
    · rw [z, Nat.sub_self] at h
      exact .inr ⟨z, (Option.some.inj h).symm⟩
    · rw [List.getElem?_eq_none] at h
      · cases h
      · show 1 ≤ l - st.length
        omega
theorem Rel.alloc (R : Rel T K W H st) (h : H p = none) (q : CelR K W.Hs p o c) (hc : c ≠ .dead) : Rel T K (W.cell st.length p) (upd H p o) (st ++ [c]) where
  sub := fun a u e => (R.sub a u e).imp (more_upd h a u) (Or.imp (fun ⟨m, od, z⟩ => ⟨m, od, more_upd h a _ z⟩) fun ⟨ps, ps', q, z⟩ => ⟨ps, ps', q, more_upd h a _ z⟩)
  cel := fun l e he hd => by
    rcases get_snoc he with ⟨hl, e1⟩ | ⟨hl, e1⟩
    · obtain ⟨n, u, e2, q⟩ := R.cel l e e1 hd
      have er : (W.cell st.length p).ρ l = W.ρ l := if_neg (Nat.ne_of_lt hl)
      rw [er]
      exact ⟨n, u, more_upd h _ _ e2, q⟩
    · subst e1
      have er : (W.cell st.length p).ρ l = p := if_pos hl
      rw [er]
      exact ⟨R.hsNone h, o, upd_same, q⟩
  inj := fun l m hl hm z => by
    have key : ∀ l, live (st ++ [c]) l → (l < st.length ∧ live st l ∧ (W.cell st.length p).ρ l = W.ρ l) ∨ (l = st.length ∧ (W.cell st.length p).ρ l = p) := fun l ⟨e, he, hd⟩ => by
      rcases get_snoc he with ⟨hl, e1⟩ | ⟨hl, e1⟩
      · exact .inl ⟨hl, ⟨e, e1, hd⟩, if_neg (Nat.ne_of_lt hl)⟩
      · exact .inr ⟨hl, if_pos hl⟩
    rcases key l hl with ⟨a1, a2, a3⟩ | ⟨a1, a3⟩ <;> rcases key m hm with ⟨b1, b2, b3⟩ | ⟨b1, b3⟩
    · rw [a3, b3] at z
      exact R.inj l m a2 b2 z
    · rw [a3, b3] at z
      exact absurd z.symm (R.ne_new h a2)
    · rw [a3, b3] at z
      exact absurd z (R.ne_new h b2)
    · rw [a1, b1]
  tab := R.tab.ext (more_upd h)
theorem Ext.alloc (R : Rel T K W H st) (h : H p = none) : Ext W H st (W.cell st.length p) (upd H p o) (st ++ [c]) :=
  ⟨More.refl, fun l hl => if_neg (Nat.ne_of_lt hl), by rw [List.length_append]; exact Nat.le_add_right _ _, fun a u e _ _ => more_upd h a u e,
    fun l h1 h2 => by
      have e : l = st.length := by
        rw [List.length_append] at h2
        simp at h2
        omega
      rw [show (W.cell st.length p).ρ l = p from if_pos e]
      exact h, fun l hl ⟨e, he, hd⟩ => by
      rw [List.getElem?_append_left hl] at he
      exact ⟨e, he, hd⟩, fun a z => upd_none z, fun _ z => .inl z⟩
theorem Wd.cell_at : (W.cell st.length p).ρ st.length = p := if_pos rfl
/-- a thing of the store is written -/
theorem Rel.write (R : Rel T K W H st) (hl : live st l) (q : CelR K W.Hs (W.ρ l) o c) (hc : c ≠ .dead) : Rel T K W (upd H (W.ρ l) o) (st.set l c) where
  sub := fun a u e => by
    obtain ⟨e0, h0, d0⟩ := hl
    obtain ⟨n, _⟩ := R.cel l e0 h0 d0
    have ne : a ≠ W.ρ l := fun z => by rw [z, n] at e; cases e
    rw [upd_ne ne]
    exact R.sub a u e
  cel := fun m e he hd => by
    by_cases z : m = l
    · subst z
      rw [List.getElem?_set_self hl.lt] at he
      cases he
      obtain ⟨e0, h0, d0⟩ := hl
      obtain ⟨n, _⟩ := R.cel m e0 h0 d0
      exact ⟨n, o, upd_same, q⟩
    · rw [List.getElem?_set_ne (Ne.symm z)] at he
      obtain ⟨n, u, e2, q2⟩ := R.cel m e he hd
      have ne : W.ρ m ≠ W.ρ l := fun y => z (R.inj m l ⟨e, he, hd⟩ hl y)
      exact ⟨n, u, by rw [upd_ne ne]; exact e2, q2⟩
  inj := fun m n hm hn z => by
    have key : ∀ m, live (st.set l c) m → live st m := fun m ⟨e, he, hd⟩ => by
      by_cases z : m = l
      · rw [z]; exact hl
      · rw [List.getElem?_set_ne (Ne.symm z)] at he
        exact ⟨e, he, hd⟩
    exact R.inj m n (key m hm) (key n hn) z
  tab := by
    obtain ⟨e0, h0, d0⟩ := hl
    obtain ⟨n, u, e2, q2⟩ := R.cel l e0 h0 d0
    refine Fx.TabsN.but R.tab fun b v e hv => ?_
    rw [upd_ne (fun z => hv (by
      rw [z, e2] at e
      cases e
      exact q2.isCel d0))]
    exact e
theorem Ext.write (R : Rel T K W H st) (hl : live st l) (q : CelR K W.Hs (W.ρ l) o c) (hc : c ≠ .dead) : Ext W H st W (upd H (W.ρ l) o) (st.set l c) :=
  ⟨More.refl, fun _ _ => rfl, by rw [List.length_set]; exact Nat.le_refl _, fun a u e n _ => by rw [upd_ne (n l hl)]; exact e, fun m h1 h2 => by
    rw [List.length_set] at h2
    exact absurd h2 (Nat.not_lt.mpr h1), fun m hm ⟨e, he, hd⟩ => by
    by_cases z : m = l
    · rw [z]; exact hl
    · rw [List.getElem?_set_ne (Ne.symm z)] at he
      exact ⟨e, he, hd⟩, fun a z => upd_none z, fun _ z => .inl z⟩
/-- a thing of the store is data from now on -/
theorem Rel.freeze (R : Rel T K W H st) (hl : st[l]? = some c) (hc : c ≠ .dead) (ho : H (W.ρ l) = some o) : Rel T K (W.add (W.ρ l) o) H (st.set l .dead) where
  sub := fun a u e => by
    have e : upd W.Hs (W.ρ l) o a = some u := e
    by_cases z : a = W.ρ l
    · rw [z, upd_same] at e
      cases e
      rw [z]
      exact .inl ho
    · rw [upd_ne z] at e
      exact R.sub a u e
  cel := fun m e he hd => by
    have lt : l < st.length := (List.getElem?_eq_some_iff.mp hl).1
    by_cases z : m = l
    · subst z
      rw [List.getElem?_set_self lt] at he
      cases he
      exact absurd rfl hd
    · rw [List.getElem?_set_ne (Ne.symm z)] at he
      obtain ⟨n, u, e2, q2⟩ := R.cel m e he hd
      have ne : W.ρ m ≠ W.ρ l := fun y => z (R.inj m l ⟨e, he, hd⟩ ⟨c, hl, hc⟩ y)
      have nl := (R.cel l c hl hc).1
      refine ⟨?_, u, e2, q2.more (more_upd nl)⟩
      show upd W.Hs (W.ρ l) o (W.ρ m) = none
      rw [upd_ne ne]
      exact n
  inj := fun m n hm hn z => by
    have key : ∀ m, live (st.set l .dead) m → live st m := fun m ⟨e, he, hd⟩ => by
      by_cases z : m = l
      · rw [z]; exact ⟨c, hl, hc⟩
      · rw [List.getElem?_set_ne (Ne.symm z)] at he
        exact ⟨e, he, hd⟩
    exact R.inj m n (key m hm) (key n hn) z
  tab := R.tab
theorem Ext.freeze (R : Rel T K W H st) (hl : st[l]? = some c) (hc : c ≠ .dead) : Ext W H st (W.add (W.ρ l) o) H (st.set l .dead) :=
  ⟨more_upd (R.cel l c hl hc).1, fun _ _ => rfl, by rw [List.length_set]; exact Nat.le_refl _, fun a u e _ _ => e, fun m h1 h2 => by
    rw [List.length_set] at h2
    exact absurd h2 (Nat.not_lt.mpr h1), fun m hm ⟨e, he, hd⟩ => by
    by_cases z : m = l
    · rw [z]; exact ⟨c, hl, hc⟩
    · rw [List.getElem?_set_ne (Ne.symm z)] at he
      exact ⟨e, he, hd⟩, fun a z => z, fun a z => by
    by_cases e : a = W.ρ l
    · exact .inr (.inr ⟨l, ⟨c, hl, hc⟩, e⟩)
    · have z : upd W.Hs (W.ρ l) o a ≠ none := z
      rw [upd_ne e] at z
      exact .inl z⟩
/-! ### a thing that nobody is told of -/
structure Out1 (W : Wd) (H : Hp) (st : Sto) (p : Addr) : Prop where
  hs : W.Hs p = none
  cel : ∀ l, live st l → p ≠ W.ρ l
theorem Out1.of (R : Rel T K W H st) (h : H p = none) : Out1 W H st p := ⟨R.hsNone h, fun l hl => R.ne_new h hl⟩
theorem Out1.ext {W' : Wd} {st' : Sto} (h : Out1 W H st p) (x : Ext W H st W' H' st') (hp : H p ≠ none) : Out1 W' H' st' p where
  hs := by
    cases e : W'.Hs p with
    | none => rfl
    | some u =>
      rcases x.told p (by rw [e]; exact fun z => by cases z) with z | z | ⟨l, hl, z⟩
      · exact absurd h.hs z
      · exact absurd z hp
      · exact absurd z (h.cel l hl)
  cel := fun l hl z => by
    by_cases q : l < st.length
    · rw [x.rho l q] at z
      exact h.cel l (x.dead l q hl) z
    · have := x.new l (Nat.not_lt.mp q) hl.lt
      rw [← z] at this
      exact hp this
theorem Rel.poke (R : Rel T K W H st) (h : Out1 W H st p) (hp : ∀ u, H p = some u → Fx.isCel u) : Rel T K W (upd H p o) st where
  sub := fun a u e => by
    have ne : a ≠ p := fun z => by rw [z, h.hs] at e; cases e
    rw [upd_ne ne]
    exact R.sub a u e
  cel := fun l c e hc => by
    obtain ⟨n, u, e2, q⟩ := R.cel l c e hc
    exact ⟨n, u, by rw [upd_ne (h.cel l ⟨c, e, hc⟩).symm]; exact e2, q⟩
  inj := R.inj
  tab := Fx.TabsN.but R.tab fun b v e hv => by
    rw [upd_ne (fun z => hv (by rw [z] at e; exact hp v e))]
    exact e
theorem Ext.poke {W0 : Wd} {H0 : Hp} {st0 : Sto} (x : Ext W0 H0 st0 W H st) (h : H0 p = none) : Ext W0 H0 st0 W (upd H p o) st where
  hs := x.hs
  rho := x.rho
  len := x.len
  frame := fun a u e n t => by
    rw [upd_ne (ne_of_none e h)]
    exact x.frame a u e n t
  new := x.new
  dead := x.dead
  kept := fun a z => x.kept a (upd_none z)
  told := x.told
theorem Rel.tell (R : Rel T K W H st) (h : Out1 W H st p) (ho : H p = some o) : Rel T K (W.add p o) H st where
  sub := fun a u e => by
    have e : upd W.Hs p o a = some u := e
    by_cases z : a = p
    · rw [z, upd_same] at e
      cases e
      rw [z]
      exact .inl ho
    · rw [upd_ne z] at e
      exact R.sub a u e
  cel := fun l c e hc => by
    obtain ⟨n, u, e2, q⟩ := R.cel l c e hc
    refine ⟨?_, u, e2, q.more (more_upd h.hs)⟩
    show upd W.Hs p o (W.ρ l) = none
    rw [upd_ne (h.cel l ⟨c, e, hc⟩).symm]
    exact n
  inj := R.inj
  tab := R.tab
theorem Ext.tell {W0 : Wd} {H0 : Hp} {st0 : Sto} (x : Ext W0 H0 st0 W H st) (h : H0 p = none) (hs : W.Hs p = none) : Ext W0 H0 st0 (W.add p o) H st where
  hs := x.hs.trans (more_upd hs)
  rho := x.rho
  len := x.len
  frame := x.frame
  new := x.new
  dead := x.dead
  kept := x.kept
  told := fun a z => by
    by_cases e : a = p
    · rw [e]; exact .inr (.inl h)
    · have z : upd W.Hs p o a ≠ none := z
      rw [upd_ne e] at z
      exact x.told a z
theorem Rel.tellC (R : Rel T K W H st) (h : Out1 W H st p) (ho : H p = some o) (q : CelR K W.Hs p o c) (hc : c ≠ .dead) : Rel T K (W.cell st.length p) H (st ++ [c]) where
  sub := R.sub
  cel := fun l e he hd => by
    rcases get_snoc he with ⟨hl, e1⟩ | ⟨hl, e1⟩
    · obtain ⟨n, u, e2, q⟩ := R.cel l e e1 hd
      have er : (W.cell st.length p).ρ l = W.ρ l := if_neg (Nat.ne_of_lt hl)
      rw [er]
      exact ⟨n, u, e2, q⟩
    · subst e1
      have er : (W.cell st.length p).ρ l = p := if_pos hl
      rw [er]
      exact ⟨h.hs, o, ho, q⟩
  inj := fun l m hl hm z => by
    have key : ∀ l, live (st ++ [c]) l → (l < st.length ∧ live st l ∧ (W.cell st.length p).ρ l = W.ρ l) ∨ (l = st.length ∧ (W.cell st.length p).ρ l = p) := fun l ⟨e, he, hd⟩ => by
      rcases get_snoc he with ⟨hl, e1⟩ | ⟨hl, e1⟩
      · exact .inl ⟨hl, ⟨e, e1, hd⟩, if_neg (Nat.ne_of_lt hl)⟩
      · exact .inr ⟨hl, if_pos hl⟩
    rcases key l hl with ⟨a1, a2, a3⟩ | ⟨a1, a3⟩ <;> rcases key m hm with ⟨b1, b2, b3⟩ | ⟨b1, b3⟩
    · rw [a3, b3] at z
      exact R.inj l m a2 b2 z
    · rw [a3, b3] at z
      exact absurd z.symm (h.cel l a2)
    · rw [a3, b3] at z
      exact absurd z (h.cel m b2)
    · rw [a1, b1]
  tab := R.tab
theorem Ext.tellC {W0 : Wd} {H0 : Hp} {st0 : Sto} (x : Ext W0 H0 st0 W H st) (h : H0 p = none) : Ext W0 H0 st0 (W.cell st.length p) H (st ++ [c]) where
  hs := x.hs
  rho := fun l hl => by
    have e : (W.cell st.length p).ρ l = W.ρ l := if_neg (Nat.ne_of_lt (Nat.lt_of_lt_of_le hl x.len))
    rw [e]
    exact x.rho l hl
  len := by rw [List.length_append]; exact Nat.le_trans x.len (Nat.le_add_right _ _)
  frame := x.frame
  new := fun l h1 h2 => by
    by_cases q : l = st.length
    · have e : (W.cell st.length p).ρ l = p := if_pos q
      rw [e]
      exact h
    · have e : (W.cell st.length p).ρ l = W.ρ l := if_neg q
      rw [e]
      rw [List.length_append] at h2
      simp at h2
      exact x.new l h1 (by omega)
  dead := fun l hl ⟨e, he, hd⟩ => by
    rw [List.getElem?_append_left (Nat.lt_of_lt_of_le hl x.len)] at he
    exact x.dead l hl ⟨e, he, hd⟩
  kept := x.kept
  told := x.told
end
end Fx

set_option Elab.async false
set_option linter.all false
set_option maxRecDepth 100000
set_option maxHeartbeats 1000000
/-! Fx5: the judgements: an expression, a test, arguments, a statement give what their sense says. -/
namespace Fx
open PySem PySem.Spec PyProof.Rows L2 NdefX LamX
/-! ### made functions -/
structure CF where
  name : Str
  qual : Str
  params : Arguments
  body : FuncBody
  scope : Scope
  cl : List (Str × Addr)
  c : Addr
def CF.fd (F : CF) (doc pm ctv : Value) : FuncData :=
  { name := F.name, qualname := F.qual, params := F.params, body := F.body, scope := F.scope, globals := mainGlobals, closure := F.cl, defaults := .none, kwdefaults := .none, doc := doc, pyModule := pm, annotations := none, code := .ref F.c, closureTuple := ctv, builtins := builtinsNs }
def FnC (f : Addr) (F : CF) : HO := .ext fun h => ∃ (od : Option Addr) (sl : Array (Option Value)) (doc pm ctv : Value), h.get? f = some (⟨.type "function", od, .func (F.fd doc pm ctv), sl⟩ : PySem.Obj)
/-- what the text tells of a made function -/
structure CI where
  N : List Str
  ps : List Str
  fr : List Str
  params : Arguments
  body : FuncBody
  scope : Scope
/-- a module's def: its function's data, its parameters -/
structure FI where
  fd : FuncData
  ps : List Str
/-- what a whole program tells -/
structure Gc where
  T : List NTab
  p : Prog
  ci : Nat → Option CI
  ad : Str → Option Addr
  fi : Str → Option FI
  fre : List Str
structure GX (Γ : Gc) (X : Cx) : Prop where
  fn : ∀ f a, Γ.ad f = some a → X.mg f = some (.ref a) ∧ PySem.W.keepIn X.K (.ref a) = true
  glo : ∀ x c, Γ.p.gl x = some c → ∃ u v, X.mg x = some u ∧ RelV v u ∧ ∀ H, Pl (kp X) H v c
  glt : ∀ x xs, Γ.p.gt x = some xs → ∃ A vs, X.mg x = some (.ref A) ∧ (∀ H, SqT X.K H A vs) ∧ ∀ H, PlA (kp X) H vs xs
  free : ∀ x, x ∈ Γ.fre → X.mg x = none
/-- the context in which a text runs, with room for k calls -/
structure Okx (Γ : Gc) (k : Nat) (X : Cx) : Prop where
  g : GX Γ X
  calm : X.calm = true
  passes : PassesOwn (model X.prog X.w) X.A X.env X.xe
  room : Room (2 * k + 1) X.A
  guards : X.A.guards = some []
  nd : X.N.Nodup
/-! ### values -/
def RV (Γ : Gc) (X : Cx) (P : L2.St → Prop) (W : Wd) (H : Hp) (n : Nat) (v : V) : Val → Prop
  | .d x => Rp (kp X) W.Hs v x
  | .o l => l < n ∧ v = .ref (W.ρ l)
  | .c k ws => ∃ (f : Addr) (F : CF) (wvs : List (Option V)) (ci : CI), v = .ref f ∧ Γ.ci k = some ci ∧ F.params = ci.params ∧ F.body = ci.body ∧ F.scope = ci.scope ∧ H f = some (FnC f F) ∧ H F.c = some (CodeO F.c F.qual) ∧
      Paired (fun (wv : Option V) (w : PyData) => ∃ v', wv = some v' ∧ Rp (kp X) W.Hs v' w) wvs ws ∧
      (∀ (pins : List (Addr × PySem.Obj)) (s : Shared) (σ' : L2.St) (H' : Hp), P σ' → Inv X pins σ' H' s → CellsAt F.cl ci.fr wvs s.heap H') ∧ ∀ y c, F.cl.lookup y = some c → c ≠ X.env.locals ∧ c ∉ X.fs ∧ c ∉ X.ex
  | .g f => ∃ a, Γ.ad f = some a ∧ v = .ref a
/-- a def's own made function, held by a slot -/
def RN (Γ : Gc) (X : Cx) (H : Hp) (v : V) (k : Nat) (js : List Nat) : Prop :=
  ∃ (f : Addr) (F : CF) (ci : CI), v = .ref f ∧ Γ.ci k = some ci ∧ F.params = ci.params ∧ F.body = ci.body ∧ F.scope = ci.scope ∧ H f = some (FnC f F) ∧ H F.c = some (CodeO F.c F.qual) ∧ (X.Ok → Caps X F.cl ci.fr js) ∧ ∀ y c, F.cl.lookup y = some c → c ∉ X.fs
def SlvR (Γ : Gc) (X : Cx) (W : Wd) (H : Hp) (n : Nat) (v : V) : Slv → Prop
  | .v x => RV Γ X (fun _ => True) W H n v x
  | .nd k js => RN Γ X H v k js
structure EnvR (Γ : Gc) (X : Cx) (W : Wd) (H : Hp) (n : Nat) (σ : L2.St) (ε : Env) : Prop where
  len : σ.length = ε.length
  at_ : ∀ (i : Nat) (x : Slv), ε[i]? = some (some x) → ∃ v, σ[i]? = some (some v) ∧ SlvR Γ X W H n v x
section
variable {Γ : Gc} {X : Cx} {P P' : L2.St → Prop} {W W' : Wd} {H H' : Hp} {st st' : Sto} {v : V} {x : Val} {n : Nat}
theorem not_cel_fn (f : Addr) (F : CF) : ¬ isCel (FnC f F) := not_cel_ext (f + 1) ⟨.type "function", none, .func (F.fd .none .none .none), #[]⟩ (fun _ _ z => by cases z) ⟨_, _, _, _, _, many_at (Nat.lt_succ_self _) (fun z => by cases z)⟩
theorem fnC_tbl {f : Addr} {F : CF} (ps : Array Value) : FnC f F ≠ .tbl ps := fun z => by unfold FnC at z; cases z
theorem Rel.not_cel {T : List NTab} {K : Pw} (R : Rel T K W H st) {a : Addr} {o : HO} (h : H a = some o) (ho : ¬ isCel o) {l : Nat} (hl : live st l) : a ≠ W.ρ l := fun z => by
  obtain ⟨c, e, hc⟩ := hl
  obtain ⟨_, u, e2, q⟩ := R.cel l c e hc
  rw [z, e2] at h
  cases h
  exact ho (q.isCel hc)
theorem Ext.fnC {T : List NTab} {K : Pw} (e : Ext W H st W' H' st') (R : Rel T K W H st) {f : Addr} {F : CF} (h : H f = some (FnC f F)) : H' f = some (FnC f F) :=
  e.frame _ _ h (fun l hl => R.not_cel h (not_cel_fn _ _) hl) (fnC_tbl)
theorem Ext.codeO {T : List NTab} {K : Pw} (e : Ext W H st W' H' st') (R : Rel T K W H st) {f : Addr} {q : Str} (h : H f = some (CodeO f q)) : H' f = some (CodeO f q) :=
  e.frame _ _ h (fun l hl => R.not_cel h (not_cel_code _ _) hl) (codeO_ne)
theorem RV.ext (r : RV Γ X P W H st.length v x) (R : Rel Γ.T (kp X) W H st) (e : Ext W H st W' H' st') : RV Γ X P W' H' st'.length v x := by
  cases x with
  | d x => exact Rp.more e.hs r
  | o l => obtain ⟨h1, h2⟩ := r; exact ⟨Nat.lt_of_lt_of_le h1 e.len, by rw [e.rho l h1]; exact h2⟩
  | c k ws =>
    obtain ⟨f, F, wvs, ci, h1, h2, h3, h4, h5, h6, h7, h8, h9, h10⟩ := r
    exact ⟨f, F, wvs, ci, h1, h2, h3, h4, h5, e.fnC R h6, e.codeO R h7, Paired.mapP h8 fun _ _ ⟨v', a, b⟩ => ⟨v', a, b.more e.hs⟩, h9, h10⟩
  | g f => exact r
theorem RV.imp (r : RV Γ X P W H n v x) (h : ∀ σ, P' σ → P σ) : RV Γ X P' W H n v x := by
  cases x with
  | d x => exact r
  | o l => exact r
  | c k ws =>
    obtain ⟨f, F, wvs, ci, h1, h2, h3, h4, h5, h6, h7, h8, h9, h10⟩ := r
    exact ⟨f, F, wvs, ci, h1, h2, h3, h4, h5, h6, h7, h8, fun pins s σ' H' p I => h9 pins s σ' H' (h _ p) I, h10⟩
  | g f => exact r
theorem SlvR.ext {x : Slv} (r : SlvR Γ X W H st.length v x) (R : Rel Γ.T (kp X) W H st) (e : Ext W H st W' H' st') : SlvR Γ X W' H' st'.length v x := by
  cases x with
  | v x => exact RV.ext (x := x) r R e
  | nd k js =>
    obtain ⟨f, F, ci, h1, h2, h3, h4, h5, h6, h7, h8, h9⟩ := r
    exact ⟨f, F, ci, h1, h2, h3, h4, h5, e.fnC R h6, e.codeO R h7, h8, h9⟩
theorem EnvR.ext {σ : L2.St} {ε : Env} (r : EnvR Γ X W H st.length σ ε) (R : Rel Γ.T (kp X) W H st) (e : Ext W H st W' H' st') : EnvR Γ X W' H' st'.length σ ε :=
  ⟨r.len, fun i x h => by
    obtain ⟨v, h1, h2⟩ := r.at_ i x h
    exact ⟨v, h1, h2.ext R e⟩⟩
theorem EnvR.set {σ : L2.St} {ε : Env} {i : Nat} {x : Slv} (r : EnvR Γ X W H n σ ε) (q : SlvR Γ X W H n v x) : EnvR Γ X W H n (σ.set i (some v)) (ε.set i (some x)) :=
  ⟨by rw [List.length_set, List.length_set]; exact r.len, fun j y h => by
    by_cases z : j = i
    · subst z
      have hl : j < ε.length := by
        have := (List.getElem?_eq_some_iff.mp h).1
        rwa [List.length_set] at this
      rw [List.getElem?_set_self hl] at h
      cases h
      exact ⟨v, List.getElem?_set_self (by rw [r.len]; exact hl), q⟩
    · rw [List.getElem?_set_ne (Ne.symm z)] at h
      obtain ⟨u, h1, h2⟩ := r.at_ j y h
      exact ⟨u, by rw [List.getElem?_set_ne (Ne.symm z)]; exact h1, h2⟩⟩
end
/-! ### exceptions -/
/-- the class of an exception, its own dict -/
def ExR (X : Cx) (W : Wd) (H : Hp) (cls : Value) (d : Option Addr) (ex : Exn) : Prop :=
  ∃ C, cls = .ref C ∧ X.mg ex.cls = some (.ref C) ∧ ((ex.args = [] ∧ d = none) ∨ ∃ f x v dd, ex.args = [(f, x)] ∧ d = some dd ∧ H dd = some (.xd [(f, v)]) ∧ Rp (kp X) W.Hs v x)
/-! ### what is wished of a run -/
abbrev Rl (α β : Type) := Wd → Hp → Nat → β → α → Prop
def Post {α β : Type} (Γ : Gc) (X : Cx) (R : Rl α β) (σ : L2.St) (Wx : WX) (W : Wd) (H : Hp) (st : Sto) (o : Out α) (Q : β → Hp → Prop) : Prop := match o with
  | .ok a st' => ∀ b W' H', Ext W H st W' H' st' → Rel Γ.T (kp X) W' H' st' → R W' H' st'.length b a → Q b H'
  | .err ex st' => ∀ cls d W' H', Ext W H st W' H' st' → Rel Γ.T (kp X) W' H' st' → ExR X W' H' cls d ex → Wx cls d σ H'
  | .bad => False
def tG {α β : Type} (Γ : Gc) (X : Cx) (R : Rl α β) (F : Env → M α) (Wx : WX) : L2.St → Hp → (β → Hp → Prop) → Prop := fun σ H Q =>
  ∃ W ε st, Rel Γ.T (kp X) W H st ∧ EnvR Γ X W H st.length σ ε ∧ Post Γ X R σ Wx W H st (F ε st) Q
section
variable {α β γ δ : Type} {Γ : Gc} {X : Cx} {R : Rl α β} {R' : Rl γ δ} {σ : L2.St} {Wx : WX} {W W1 : Wd} {H H1 : Hp} {st st1 : Sto} {ε : Env}
theorem Post.rebase {o : Out α} {Q : β → Hp → Prop} (p : Post Γ X R σ Wx W H st o Q) (e : Ext W H st W1 H1 st1) : Post Γ X R σ Wx W1 H1 st1 o Q := by
  cases o with
  | ok a st' => exact fun b W' H' e' r q => p b W' H' (e.trans e') r q
  | err ex st' => exact fun cls d W' H' e' r q => p cls d W' H' (e.trans e') r q
  | bad => exact p
/-- the first part of a run -/
theorem tG_of {F : Env → M α} {g : α → M γ} {Q : δ → Hp → Prop} {Q1 : β → Hp → Prop} (rel : Rel Γ.T (kp X) W H st) (env : EnvR Γ X W H st.length σ ε) (post : Post Γ X R' σ Wx W H st (M.bind (F ε) g st) Q)
    (k : ∀ b a W1 H1 st1, F ε st = .ok a st1 → Ext W H st W1 H1 st1 → Rel Γ.T (kp X) W1 H1 st1 → EnvR Γ X W1 H1 st1.length σ ε → R W1 H1 st1.length b a → Post Γ X R' σ Wx W1 H1 st1 (g a st1) Q → Q1 b H1) : tG Γ X R F Wx σ H Q1 := by
  refine ⟨W, ε, st, rel, env, ?_⟩
  unfold M.bind at post
  cases e : F ε st with
  | ok a st1 =>
    rw [e] at post
    exact fun b W' H' x r q => k b a W' H' st1 e x r (env.ext rel x) q (post.rebase x)
  | err ex st1 =>
    rw [e] at post
    exact post
  | bad =>
    rw [e] at post
    exact post
end
abbrev RVs (Γ : Gc) (X : Cx) (σ : L2.St) : Rl Val V := fun W H n v x => RV Γ X (fun s => s = σ) W H n v x
abbrev RVl (Γ : Gc) (X : Cx) (σ : L2.St) : Rl (List Val) (List V) := fun W H n vs xs => Paired (fun v x => RV Γ X (fun s => s = σ) W H n v x) vs xs
abbrev REq {α : Type} : Rl α α := fun _ _ _ b a => b = a
/-- an expression -/
def tE (Γ : Gc) (X : Cx) (F : Env → M Val) (Wx : WX) : TE := fun σ H Q => tG Γ X (RVs Γ X σ) F Wx σ H Q
def DE (Γ : Gc) (X : Cx) (e : Expr) (F : Env → M Val) : Prop := ∀ Wx, Takes X Wx → PE X e (tE Γ X F Wx)
def tTs (Γ : Gc) (X : Cx) (F : Env → M Bool) (Wx : WX) : TT := fun σ H Q => tG Γ X REq F Wx σ H Q
def DT (Γ : Gc) (X : Cx) (e : Expr) (F : Env → M Bool) : Prop := ∀ Wx, Takes X Wx → PT X e (tTs Γ X F Wx)
def tAs (Γ : Gc) (X : Cx) (F : Env → M (List Val)) (Wx : WX) : TA := fun σ H Q => tG Γ X (RVl Γ X σ) F Wx σ H Q
def DA (Γ : Gc) (X : Cx) (es : List Expr) (F : Env → M (List Val)) : Prop := ∀ Wx, Takes X Wx → PA X es (tAs Γ X F Wx)
theorem _root_.L2.PE.imp {X : Cx} {e : Expr} {t t' : TE} (h : PE X e t) (k : ∀ σ H Q, t' σ H Q → t σ H Q) : PE X e t' := ⟨fun pins s σ H Q I q => h.run pins s σ H Q I (k σ H Q q)⟩
theorem _root_.L2.PT.imp {X : Cx} {e : Expr} {t t' : TT} (h : PT X e t) (k : ∀ σ H Q, t' σ H Q → t σ H Q) : PT X e t' := ⟨fun pins s σ H Q I q => h.run pins s σ H Q I (k σ H Q q)⟩
theorem _root_.L2.PA.imp {X : Cx} {e : List Expr} {t t' : TA} (h : PA X e t) (k : ∀ σ H Q, t' σ H Q → t σ H Q) : PA X e t' := ⟨fun pos pins s σ H Q I q => h.run pos pins s σ H Q I (k σ H Q q)⟩
theorem _root_.L2.PS.imp {X : Cx} {e : Stmt} {t t' : TS} (h : PS X e t) (k : ∀ D σ H, t' D σ H → t D σ H) : PS X e t' := ⟨fun pins s σ H D I q => h.run pins s σ H D I (k D σ H q)⟩
theorem _root_.L2.PSs.imp {X : Cx} {e : List Stmt} {t t' : TS} (h : PSs X e t) (k : ∀ D σ H, t' D σ H → t D σ H) : PSs X e t' := ⟨fun pins s σ H D I q => h.run pins s σ H D I (k D σ H q)⟩
end Fx

set_option Elab.async false
set_option linter.all false
set_option maxRecDepth 100000
set_option maxHeartbeats 4000000
/-! Fx6: operators, by values. -/
namespace Fx
open PySem PySem.Spec PyProof.Rows L2 NdefX LamX
section
variable {Γ : Gc} {X : Cx} {P : L2.St → Prop} {W : Wd} {H : Hp} {st st' : Sto} {v u : V} {x y : Val} {n : Nat} {d e : PyData}
/-! ### what is read off a value -/
theorem vw_st (h : vw x st = .ok d st') : st' = st := by
  unfold vw at h
  cases x with
  | d z => cases h; rfl
  | o l =>
    cases e : st[l]? with
    | none => simp only [e] at h; cases h
    | some c => cases c <;> simp only [e] at h <;> cases h <;> rfl
  | c k ws => cases h
  | g f => cases h
theorem vw_pl (R : Rel Γ.T (kp X) W H st) (r : RV Γ X P W H n v x) (h : vw x st = .ok d st') (hd : isDct d = false) : Pl (kp X) H v d := by
  unfold vw at h
  cases x with
  | d z => cases h; exact Pl.sub R.sub _ _ (Rp.plain r hd)
  | o l =>
    obtain ⟨_, rfl⟩ := r
    cases e : st[l]? with
    | none => simp only [e] at h; cases h
    | some c =>
      cases c with
      | dead => simp only [e] at h; cases h
      | lst xs =>
        simp only [e] at h
        cases h
        obtain ⟨_, o, e2, vs, rfl, hz, q⟩ := R.cel l _ e (by intro z; cases z)
        exact .lst (.of e2) hz (PlA.sub R.sub _ _ q)
      | dct tk ps => simp only [e] at h; cases h
  | c k ws => cases h
  | g f => cases h
/-- the items off a list are data of the store's ground -/
theorem vw_list (R : Rel Γ.T (kp X) W H st) (r : RV Γ X P W H n v x) {xs : List PyData} (h : vw x st = .ok (.list xs) st') : ∃ a vs, v = .ref a ∧ Rd H a (.lst vs) ∧ vs.length ≤ sizeLine ∧ PlA (kp X) W.Hs vs xs := by
  unfold vw at h
  cases x with
  | d z =>
    cases h
    cases (Rp.plain r rfl) with
    | lst a b c => exact ⟨_, _, rfl, R.sub.rd (fun _ _ z => by cases z) a, b, c⟩
  | o l =>
    obtain ⟨_, rfl⟩ := r
    cases e : st[l]? with
    | none => simp only [e] at h; cases h
    | some c =>
      cases c with
      | dead => simp only [e] at h; cases h
      | lst xs =>
        simp only [e] at h
        cases h
        obtain ⟨_, o, e2, vs, rfl, hz, q⟩ := R.cel l _ e (by intro z; cases z)
        exact ⟨_, _, rfl, .of e2, hz, q⟩
      | dct tk ps => simp only [e] at h; cases h
  | c k ws => cases h
  | g f => cases h
theorem vw_tup (R : Rel Γ.T (kp X) W H st) (r : RV Γ X P W H n v x) {xs : List PyData} (h : vw x st = .ok (.tuple xs) st') : ∃ a o vs, v = .ref a ∧ H a = some (.frz o (.tup vs)) ∧ o.dict = none ∧ vs.length ≤ sizeLine ∧ PlA (kp X) W.Hs vs xs := by
  unfold vw at h
  cases x with
  | d z =>
    cases h
    cases (Rp.plain r rfl) with
    | tup a n b c => exact ⟨_, _, _, rfl, R.sub.tup a, n, b, c⟩
  | o l =>
    cases e : st[l]? with
    | none => simp only [e] at h; cases h
    | some c => cases c <;> simp only [e] at h <;> cases h
  | c k ws => cases h
  | g f => cases h
theorem vw_int (r : RV Γ X P W H n v x) {i : Int} (h : vw x st = .ok (.int i) st') : v = .int i := by
  unfold vw at h
  cases x with
  | d z => cases h; cases (Rp.plain r rfl); rfl
  | o l =>
    cases e : st[l]? with
    | none => simp only [e] at h; cases h
    | some c => cases c <;> simp only [e] at h <;> cases h
  | c k ws => cases h
  | g f => cases h
theorem vw_str (r : RV Γ X P W H n v x) {z : Str} (h : vw x st = .ok (.str z) st') : v = .str z ∧ PyData.strOk z = true ∧ z.length ≤ sizeLine := by
  unfold vw at h
  cases x with
  | d z => cases h; cases (Rp.plain r rfl) with | str _ a b => exact ⟨rfl, a, b⟩
  | o l =>
    cases e : st[l]? with
    | none => simp only [e] at h; cases h
    | some c => cases c <;> simp only [e] at h <;> cases h
  | c k ws => cases h
  | g f => cases h
/-! ### results -/
theorem fin_d {σ : L2.St} {Wx : WX} {Q : VK} {d : PyData} (p : Post Γ X (RVs Γ X σ) σ Wx W H st (.ok (.d d) st) Q) (R : Rel Γ.T (kp X) W H st) (r : Rp (kp X) W.Hs v d) : Q v H := p v W H Ext.refl R r
/-- new data: a list, a tuple -/
theorem fin_new {σ : L2.St} {Wx : WX} {Q : VK} {d : PyData} {a : Addr} {o : HO} (p : Post Γ X (RVs Γ X σ) σ Wx W H st (.ok (.d d) st) Q) (R : Rel Γ.T (kp X) W H st) (h : H a = none) (r : ∀ Hs, More W.Hs Hs → Hs a = some o → Rp (kp X) Hs (.ref a) d) : Q (.ref a) (upd H a o) :=
  p _ (W.add a o) _ (Ext.data R h) (R.data h) (r _ (more_upd (R.hsNone h)) Wd.at_add)
theorem pl_lst {Hs Hs' : Hp} {K : Pw} {a : Addr} {vs : List V} {xs : List PyData} (q : PlA K Hs vs xs) (hz : vs.length ≤ sizeLine) (m : More Hs Hs') (h : Hs' a = some (.lst vs)) : Rp K Hs' (.ref a) (.list xs) := .pl (.lst (.of h) hz (q.more m))
theorem pl_tup {Hs Hs' : Hp} {K : Pw} {a : Addr} {vs : List V} {xs : List PyData} (q : PlA K Hs vs xs) (hz : vs.length ≤ sizeLine) (m : More Hs Hs') {o : PySem.Obj} (n : o.dict = none) (h : Hs' a = some (.frz o (.tup vs))) : Rp K Hs' (.ref a) (.tuple xs) := .pl (.tup h n hz (q.more m))
/-- a new thing of the store -/
theorem fin_cell {σ : L2.St} {Wx : WX} {Q : VK} {c : Cel} {a : Addr} {o : HO} (p : Post Γ X (RVs Γ X σ) σ Wx W H st (.ok (.o st.length) (st ++ [c])) Q) (R : Rel Γ.T (kp X) W H st) (h : H a = none) (q : CelR (kp X) W.Hs a o c) (hc : c ≠ .dead) : Q (.ref a) (upd H a o) :=
  p _ (W.cell st.length a) _ (Ext.alloc R h) (R.alloc h q hc) ⟨by rw [List.length_append]; exact Nat.lt_succ_self _, by rw [Wd.cell_at]⟩
theorem fin_mkL {σ : L2.St} {Wx : WX} {Q : VK} {ob : Bool} {xs : List PyData} {vs : List V} {a : Addr} (p : Post Γ X (RVs Γ X σ) σ Wx W H st (mkL ob xs st) Q) (R : Rel Γ.T (kp X) W H st) (h : H a = none) (q : PlA (kp X) W.Hs vs xs) (hz : vs.length ≤ sizeLine) : Q (.ref a) (upd H a (.lst vs)) := by
  cases ob with
  | true => exact fin_cell (c := .lst xs) p R h ⟨vs, rfl, hz, q⟩ (by intro z; cases z)
  | false => exact fin_new p R h fun Hs m e => pl_lst q hz m e
theorem vw_td {xs : List PyData} (h : vw x st = .ok (.tuple xs) st') : x = .d (.tuple xs) := by
  unfold vw at h
  cases x with
  | d z => cases h; rfl
  | o l =>
    cases e : st[l]? with
    | none => simp only [e] at h; cases h
    | some c => cases c <;> simp only [e] at h <;> cases h
  | c k ws => cases h
  | g f => cases h
theorem vw_err {ex : Exn} (h : vw x st = .err ex st') : False := by
  unfold vw at h
  cases x with
  | d z => cases h
  | o l =>
    cases e : st[l]? with
    | none => simp only [e] at h; cases h
    | some c => cases c <;> simp only [e] at h <;> cases h
  | c k ws => cases h
  | g f => cases h
end
/-! ### lists that are read -/
section
variable {X : Cx} {pins : List (Addr × PySem.Obj)} {σ : L2.St} {H : Hp} {s : Shared} {l : Addr} {xs : List V}
theorem lstR (I : Inv X pins σ H s) (hH : Rd H l (.lst xs)) : xs.length ≤ sizeLine ∧ ∃ (its : List Value) (n : Nat), Vals xs its ∧ xs.length = its.length ∧ s.heap.get? l = some { cls := .type "list", data := .seq its.toArray n } := by
  obtain ⟨z, its, n, r, e⟩ := hH.ok I.hok
  exact ⟨z, its, n, r, r.length, e⟩
def rCatR : R2 := fun x y H Q => ∃ l b xs zs, x = .ref l ∧ y = .ref b ∧ Rd H l (.lst xs) ∧ Rd H b (.lst zs) ∧ xs.length + zs.length ≤ sizeLine ∧ ∀ p, H p = none → Q (.ref p) (upd H p (.lst (xs ++ zs)))
theorem op_catR : OpR X (binaryOp .Add) rCatR := by
  intro pins s σ H x y v u Q I rx ry h
  obtain ⟨l, b, xs, zs, rfl, rfl, hH, hB, hz, q⟩ := h
  cases rx
  cases ry
  obtain ⟨z, its, n, r, hl, e⟩ := lstR I hH
  obtain ⟨z2, its2, n2, r2, hl2, e2⟩ := lstR I hB
  refine PySem.P.add_list e e2 ?_ (by rw [List.size_toArray, List.size_toArray]; omega)
  have ea : its.toArray ++ its2.toArray = (its ++ its2).toArray := by simp
  rw [ea]
  exact ⟨.ref _, _, I.lnew (t' := s.toks) (r.append r2) (by rw [List.length_append]; omega), rfl, q _ I.fresh⟩
theorem rep_fold (z : Array Nat) : ∀ (k : Nat) (acc : Array Nat), (List.replicate k z).foldl (· ++ ·) acc = acc ++ (List.replicate k z.toList).flatten.toArray
  | 0, acc => by simp
  | k + 1, acc => by
    rw [List.replicate_succ, List.foldl_cons, rep_fold z k, List.replicate_succ, List.flatten_cons]
    apply Array.ext'
    simp
theorem length_rep {α : Type} (xs : List α) : ∀ k : Nat, (List.replicate k xs).flatten.length = k * xs.length
  | 0 => by simp
  | k + 1 => by rw [List.replicate_succ, List.flatten_cons, List.length_append, length_rep xs k, Nat.succ_mul, Nat.add_comm]
theorem op_mulS : OpR X (binaryOp .Mult) (fun x y H Q => ∃ z k, x = .str z ∧ y = .int k ∧ 0 ≤ k ∧ k ≤ 1000 ∧ z.length ≤ 1000 ∧ Q (.str ⟨(List.replicate k.toNat z.cps.toList).flatten.toArray⟩) H) := by
  intro pins s σ H x y v u Q I rx ry h
  obtain ⟨z, k, rfl, rfl, h0, h1, h2, q⟩ := h
  obtain ⟨t, rfl⟩ := rx
  obtain ⟨t', rfl⟩ := ry
  have hk : k.toNat ≤ 1000 := by omega
  have hz : z.length * k.toNat ≤ sizeLine := Nat.le_trans (Nat.mul_le_mul h2 hk) (by rw [sizeLine_eq]; decide)
  refine PySem.P.mul_str (by simp only [Bool.or_eq_false_iff, decide_eq_false_iff_not]; omega) (fun hn _ => ?_) (fun _ _ => ?_) ?_
  · have h3 : (2 ^ 63 - 1 : Int) / 1000 ≤ (2 ^ 63 - 1) / k := by
      have hk1 : 0 < k := by omega
      refine Int.le_ediv_of_mul_le hk1 ?_
      have : (2 ^ 63 - 1 : Int) / 1000 * k ≤ (2 ^ 63 - 1 : Int) / 1000 * 1000 := Int.mul_le_mul_of_nonneg_left h1 (by decide)
      exact Int.le_trans this (by decide)
    have h4 : (z.length : Int) ≤ 1000 := by omega
    have h5 : (1000 : Int) ≤ (2 ^ 63 - 1) / 1000 := by decide
    omega
  · exact decide_eq_false (by omega)
  · by_cases c1 : k < 1
    · rw [if_pos c1]
      have : k = 0 := by omega
      subst this
      exact ⟨Nat.zero_le _, .str _, H, I.tok _, ⟨_, rfl⟩, q⟩
    · rw [if_neg c1]
      by_cases c2 : (k == 1 || z.length == 0) = true
      · rw [if_pos c2]
        have e : (⟨(List.replicate k.toNat z.cps.toList).flatten.toArray⟩ : Str) = z := by
          rcases Bool.or_eq_true_iff.mp c2 with c | c
          · have : k = 1 := by simpa using c
            subst this
            cases z
            simp
          · have c : z.length = 0 := by simpa using c
            have : z.cps = #[] := Array.eq_empty_of_size_eq_zero c
            cases z
            simp at this
            subst this
            simp
        rw [e] at q
        exact ⟨.str z, H, I, ⟨t, rfl⟩, q⟩
      · rw [if_neg c2, rep_fold]
        rw [Array.empty_append]
        refine ⟨?_, .str _, H, I.tok _, ⟨_, rfl⟩, q⟩
        show (List.replicate k.toNat z.cps.toList).flatten.toArray.size ≤ sizeLine
        rw [List.size_toArray, length_rep, Nat.mul_comm, show z.cps.toList.length = z.length from Array.length_toList]
        exact hz
def rRepR : R2 := fun x y H Q => ∃ l k xs, x = .ref l ∧ y = .int k ∧ Rd H l (.lst xs) ∧ -(2 ^ 63) ≤ k ∧ k < 2 ^ 63 ∧ xs.length * k.toNat ≤ sizeLine ∧
  ∀ p, H p = none → Q (.ref p) (upd H p (.lst (List.replicate k.toNat xs).flatten))
theorem op_repR : OpR X (binaryOp .Mult) rRepR := by
  intro pins s σ H x y v u Q I rx ry h
  obtain ⟨l, k, xs, rfl, rfl, hH, h1, h2, hz, q⟩ := h
  cases rx
  obtain ⟨t, rfl⟩ := ry
  obtain ⟨z, its, n, r, hl, e⟩ := lstR I hH
  have hlen : its.toArray.size * k.toNat ≤ sizeLine := by rw [List.size_toArray, ← hl]; exact hz
  have hcap : ¬ its.toArray.size * k.toNat > (2 ^ 63 - 1) / 8 := by
    have : (sizeLine : Nat) ≤ (2 ^ 63 - 1) / 8 := by decide
    omega
  have hfit : ¬ (!Builtin.List.listFitsIndex k) = true := by
    rw [fitsIndex_both h1 h2]
    exact Bool.false_ne_true
  have hlong : ¬ Builtin.List.listTooLong (its.toArray.size * k.toNat) = true := by
    rw [notLongL hlen]
    exact Bool.false_ne_true
  have hnew : List.foldl (fun x1 x2 => x1 ++ x2) #[] (List.replicate (if its.toArray.isEmpty = true then 0 else k.toNat) its.toArray) = (List.replicate k.toNat its).flatten.toArray := by
    have f0 : ∀ m : Nat, List.foldl (fun x1 x2 => x1 ++ x2) #[] (List.replicate m its.toArray) = (List.replicate m its).flatten.toArray := fun m => by
      have := foldl_rep its m []
      rw [List.nil_append] at this
      exact this
    rw [f0]
    cases its with
    | nil => simp
    | cons a r' => rw [if_neg (by simp)]
  refine wpAny_binaryOp_repeat_ref (T := "list") (U := "int") (by decide) ⟨_, e, rfl⟩ (fun s' => typeIs_int s' k t) noFill_list_mul F.fills_int_mul F.slot_int_rmul repeat_list F.slot_int_index.lookup
    (call_meets F.slot_int_rmul (typeIs_int s k t) F.entry_int_rmul (F.args_int_rmul_2 _ _) (int___rmul___int_list k t l its.toArray n)
      ⟨e, rfl, ⟨_, e, rfl⟩, call_meets F.slot_list_mul ⟨_, e, rfl⟩ F.entry_list_mul (F.args_list_mul_2 _ _) (AutoListH.list___mul___list_int_3 l its.toArray n k t hfit hcap hlong) ⟨e, ?_⟩⟩)
  rw [hnew]
  exact ⟨.ref _, _, I.lnew (t' := s.toks) (r.rep k.toNat) (by rw [PyProof.Rows.lm_len_rep_flat, Nat.mul_comm]; exact hz), rfl, q _ I.fresh⟩
end
/-! ### tuples that are made: what stands there is known -/
def TupO (its : List Value) : PySem.Obj := { cls := .type "tuple", data := .seq its.toArray }
theorem newT {X : Cx} {pins : List (Addr × PySem.Obj)} {σ : L2.St} {H : Hp} {s : Shared} {xs : List V} {its : List Value} {t' : Nat} (I : Inv X pins σ H s) (r : Vals xs its) (hz : xs.length ≤ sizeLine) :
    Inv X pins σ (upd H s.heap.objs.size (.frz (TupO its) (.tup xs))) { s with heap := s.heap.push (TupO its), toks := t' } :=
  I.laid (fun _ _ q => Heap.get?_push_of_some _ q) (Nat.le_refl _) ⟨Heap.get?_push_size _ rfl, hz, its, r, _, Heap.get?_push_size _ rfl, rfl, _, rfl⟩
/-- t + u -/
theorem op_catF {X : Cx} : OpR X (binaryOp .Add) (fun x y H Q => ∃ a b xs ys, x = .ref a ∧ y = .ref b ∧ SqT X.K H a xs ∧ SqT X.K H b ys ∧ xs.length + ys.length ≤ sizeLine ∧
    (xs = [] → Q (.ref b) H) ∧ (xs ≠ [] → ys = [] → Q (.ref a) H) ∧ (xs ≠ [] → ys ≠ [] → ∀ p o, o.dict = none → H p = none → Q (.ref p) (upd H p (.frz o (.tup (xs ++ ys)))))) := by
  intro pins s σ H x y v u Q I rx ry h
  obtain ⟨a, b, xs, ys, rfl, rfl, ha, hb, hz, q0, q1, q2⟩ := h
  cases rx
  cases ry
  obtain ⟨its, r1, p1, _⟩ := I.tuple ha
  obtain ⟨its2, r2, p2, _⟩ := I.tuple hb
  by_cases hx : xs = []
  · subst hx
    cases r1
    exact cat_tup0 p1 p2 ⟨.ref b, H, I, rfl, q0 rfl⟩
  · refine HT.cat_tup p1 p2 (fun z => hx (r1.nil_iff.mp z)) (fun z => ⟨.ref a, H, I, rfl, q1 hx (r2.nil_iff.mp z)⟩) (fun z => ?_) (by rw [← r1.length, ← r2.length]; exact hz)
    exact ⟨.ref s.heap.objs.size, _, newT (t' := s.toks) I (r1.append r2) (by rw [List.length_append]; exact hz), rfl, q2 hx (fun w => z (r2.nil_iff.mpr w)) _ _ rfl I.fresh⟩
/-! ### two values make one -/
def rB (Γ : Gc) (X : Cx) (F : Val → Val → M Val) : R2 := fun v u H Q => ∃ σ Wx W st x y, Rel Γ.T (kp X) W H st ∧ RVs Γ X σ W H st.length v x ∧ RVs Γ X σ W H st.length u y ∧ Post Γ X (RVs Γ X σ) σ Wx W H st (F x y st) Q
def bb (op : Operator) (x y : Val) : M Val := M.bind (vw x) fun d => M.bind (vw y) fun e => binD op d e
theorem strOk_app {x y : Str} (a : PyData.strOk x = true) (b : PyData.strOk y = true) : PyData.strOk (x ++ y) = true := by
  unfold PyData.strOk at *
  show (x.cps ++ y.cps).all _ = true
  rw [Array.all_append, a, b]
  rfl
theorem len_app {x y : Str} : (x ++ y).length = x.length + y.length := by
  show (x.cps ++ y.cps).size = _
  rw [Array.size_append]
  rfl
section
variable {Γ : Gc} {X : Cx}
theorem rB_bb {op : Operator} {v u : V} {H : Hp} {Q : VK} (h : rB Γ X (bb op) v u H Q) : ∃ σ Wx W st x y d e, Rel Γ.T (kp X) W H st ∧ RVs Γ X σ W H st.length v x ∧ RVs Γ X σ W H st.length u y ∧ vw x st = .ok d st ∧ vw y st = .ok e st ∧ Post Γ X (RVs Γ X σ) σ Wx W H st (binD op d e st) Q := by
  obtain ⟨σ, Wx, W, st, x, y, R, r1, r2, p⟩ := h
  unfold bb M.bind at p
  cases e1 : vw x st with
  | ok d s1 =>
    rw [e1] at p
    have := vw_st e1
    subst this
    simp only at p
    cases e2 : vw y s1 with
    | ok e s2 =>
      rw [e2] at p
      have := vw_st e2
      subst this
      exact ⟨σ, Wx, W, _, x, y, d, e, R, r1, r2, e1, e2, p⟩
    | err ex s2 => unfold vw at e2; cases y <;> simp only at e2 <;> (try cases e2) <;> (split at e2 <;> cases e2)
    | bad => rw [e2] at p; exact p.elim
  | err ex s2 => unfold vw at e1; cases x <;> simp only at e1 <;> (try cases e1) <;> (split at e1 <;> cases e1)
  | bad => rw [e1] at p; exact p.elim
theorem nab (i : Int) (h : small64 i = true) : -(2 ^ 64) < i ∧ i < 2 ^ 64 := by
  have := of_decide_eq_true h
  omega
theorem line_ge : 1000000 ≤ sizeLine := by rw [sizeLine_eq]; decide
theorem op_bin (op : Operator) : OpR X (binaryOp op) (rB Γ X (bb op)) := by
  intro pins s σ' H v u a b Q I rv ru h
  obtain ⟨σ, Wx, W, st, x, y, d, e, R, r1, r2, e1, e2, p⟩ := rB_bb h
  unfold binD at p
  split at p
  · -- int + int
    have q1 := vw_int r1 e1
    have q2 := vw_int r2 e2
    exact op_add pins s σ' H v u a b Q I rv ru ⟨_, _, q1, q2, fin_d p R (.pl (.int _))⟩
  · obtain ⟨q1, o1, l1⟩ := vw_str r1 e1
    obtain ⟨q2, o2, l2⟩ := vw_str r2 e2
    split at p
    · rename_i hl
      exact op_add_str pins s σ' H v u a b Q I rv ru ⟨_, _, q1, q2, hl, fin_d p R (.pl (.str _ (strOk_app o1 o2) (by rw [len_app]; exact hl)))⟩
    · exact p.elim
  · rename_i xs ys
    obtain ⟨a1, o1, vs, q1, s1, n1, z1, p1⟩ := vw_tup R r1 e1
    obtain ⟨a2, o2, ws, q2, s2, n2, z2, p2⟩ := vw_tup R r2 e2
    have t1 := vw_td e1
    have t2 := vw_td e2
    subst t1 t2
    unfold mkT at p
    split at p
    · rename_i hl
      have hl' : vs.length + ws.length ≤ sizeLine := by rw [p1.length, p2.length]; rwa [List.length_append] at hl
      refine op_catF pins s σ' H v u a b Q I rv ru ⟨_, _, _, _, q1, q2, .inl (.inr ⟨_, s1⟩), .inl (.inr ⟨_, s2⟩), hl', fun z => ?_, fun _ z => ?_, fun _ _ p' o n hp => ?_⟩
      · subst z
        cases p1
        rw [← q2]
        exact fin_d p R r2
      · subst z
        cases p2
        rw [List.append_nil] at p
        rw [← q1]
        exact fin_d p R r1
      · exact fin_new p R hp fun Hs m e => pl_tup (p1.append p2) (by rw [List.length_append]; exact hl') m n e
    · exact p.elim
  · -- list + list
    obtain ⟨a1, vs, q1, s1, z1, p1⟩ := vw_list R r1 e1
    obtain ⟨a2, ws, q2, s2, z2, p2⟩ := vw_list R r2 e2
    split at p
    · rename_i hl
      have hl' : vs.length + ws.length ≤ sizeLine := by rw [p1.length, p2.length]; exact hl
      exact op_catR pins s σ' H v u a b Q I rv ru ⟨_, _, _, _, q1, q2, s1, s2, hl', fun p' hp => fin_new p R hp fun Hs m e => pl_lst (p1.append p2) (by rw [List.length_append]; exact hl') m e⟩
    · exact p.elim
  · have q1 := vw_int r1 e1
    have q2 := vw_int r2 e2
    exact op_sub pins s σ' H v u a b Q I rv ru ⟨_, _, q1, q2, fin_d p R (.pl (.int _))⟩
  · have q1 := vw_int r1 e1
    have q2 := vw_int r2 e2
    split at p
    · rename_i hc
      have hc' : CMul _ _ := (Bool.or_eq_true_iff.mp hc).imp (nab _) (nab _)
      exact op_mul pins s σ' H v u a b Q I rv ru ⟨_, _, q1, q2, hc', fin_d p R (.pl (.int _))⟩
    · exact p.elim
  · -- list * int
    rename_i xs k
    obtain ⟨a1, vs, q1, s1, z1, p1⟩ := vw_list R r1 e1
    have q2 := vw_int r2 e2
    split at p
    · rename_i hc
      simp only [Bool.and_eq_true, decide_eq_true_eq] at hc
      obtain ⟨⟨h1, h2⟩, h3⟩ := hc
      have hk : k.toNat ≤ 1000 := by omega
      have hz : vs.length * k.toNat ≤ sizeLine := by
        rw [p1.length]
        exact Nat.le_trans (Nat.mul_le_mul h3 hk) line_ge
      exact op_repR pins s σ' H v u a b Q I rv ru ⟨_, _, _, q1, q2, s1, by omega, by omega, hz, fun p' hp => fin_new p R hp fun Hs m e => pl_lst (p1.rep _) (by rw [length_rep, Nat.mul_comm]; exact hz) m e⟩
    · exact p.elim
  · -- str * int
    rename_i z k
    obtain ⟨q1, o1, l1⟩ := vw_str r1 e1
    have q2 := vw_int r2 e2
    split at p
    · rename_i hc
      simp only [Bool.and_eq_true, decide_eq_true_eq] at hc
      obtain ⟨⟨h1, h2⟩, h3⟩ := hc
      have hk : k.toNat ≤ 1000 := by omega
      have ez : z.cps.toList.length = z.length := Array.length_toList
      refine op_mulS pins s σ' H v u a b Q I rv ru ⟨_, _, q1, q2, h1, h2, h3, fin_d p R (.pl (.str _ ?_ ?_))⟩
      · unfold PyData.strOk at o1 ⊢
        rw [List.all_toArray]
        rw [← Array.all_toList] at o1
        rw [List.all_eq_true] at o1 ⊢
        intro c hc
        obtain ⟨l, hl, hc⟩ := List.mem_flatten.mp hc
        rw [List.eq_of_mem_replicate hl] at hc
        exact o1 c hc
      · show (List.replicate k.toNat z.cps.toList).flatten.toArray.size ≤ sizeLine
        rw [List.size_toArray, length_rep, ez]
        exact Nat.le_trans (Nat.mul_le_mul hk h3) line_ge
    · exact p.elim
  · have q1 := vw_int r1 e1
    have q2 := vw_int r2 e2
    split at p
    · rename_i hc
      simp only [Bool.and_eq_true, decide_eq_true_eq] at hc
      exact op_fdiv pins s σ' H v u a b Q I rv ru ⟨_, _, q1, q2, hc, fin_d p R (.pl (.int _))⟩
    · exact p.elim
  · have q1 := vw_int r1 e1
    have q2 := vw_int r2 e2
    split at p
    · rename_i hc
      simp only [decide_eq_true_eq] at hc
      exact op_mod pins s σ' H v u a b Q I rv ru ⟨_, _, q1, q2, hc, fin_d p R (.pl (.int _))⟩
    · exact p.elim
  · have q1 := vw_int r1 e1
    have q2 := vw_int r2 e2
    split at p
    · rename_i hc
      simp only [Bool.and_eq_true, decide_eq_true_eq, small64] at hc
      exact op_pow pins s σ' H v u a b Q I rv ru ⟨_, _, q1, q2, ⟨hc.1.1, hc.1.2, hc.2⟩, fin_d p R (.pl (.int _))⟩
    · exact p.elim
  · exact p.elim
end
end Fx

set_option Elab.async false
set_option linter.all false
set_option maxRecDepth 100000
set_option maxHeartbeats 4000000
/-! Fx7: comparisons, items, slices, by values. -/
namespace Fx
open PySem PySem.Spec PyProof.Rows L2 NdefX LamX
section
variable {Γ : Gc} {X : Cx} {pins : List (Addr × PySem.Obj)} {σ : L2.St} {H : Hp} {s : Shared} {v u : V} {a b : Value} {d e : PyData} {xs : List PyData} {Q : Value → Shared → Prop} {E : Value → Shared → Prop} {k : Nat}
theorem pl_reads (I : Inv X pins σ H s) (h : Pl (kp X) H v d) (r : RelV v a) : ∃ as, Reads s.heap a d as := Dp.reads I d v a (Pl.dp d v h) r
theorem room_le {k : Nat} {A : Around} (r : Room k A) {n : Nat} (h : n ≤ 64) : A.units + n < cLine := by have := r.units; omega
theorem cmp_eqD (hr : Room k X.A) (I : Inv X pins σ H s) (h1 : Pl (kp X) H v d) (h2 : Pl (kp X) H u e) (r1 : RelV v a) (r2 : RelV u b) (hd : min d.depth e.depth ≤ 64) (q : Q (.bool (PyData.eqv d e)) s) : wpAny (model X.prog X.w) X.A (compareOp .Eq a b) Q E s := by
  obtain ⟨as, q1⟩ := pl_reads I h1 r1
  obtain ⟨bs, q2⟩ := pl_reads I h2 r2
  exact PySem.SeqAt.compareEq_reads q1 q2 (Pl.lay _ _ h1) (Pl.lay _ _ h2) (room_le hr hd) q
theorem cmp_neD (hr : Room k X.A) (I : Inv X pins σ H s) (h1 : Pl (kp X) H v d) (h2 : Pl (kp X) H u e) (r1 : RelV v a) (r2 : RelV u b) (hd : min d.depth e.depth ≤ 64) (q : Q (.bool (!PyData.eqv d e)) s) : wpAny (model X.prog X.w) X.A (compareOp .NotEq a b) Q E s := by
  obtain ⟨as, q1⟩ := pl_reads I h1 r1
  obtain ⟨bs, q2⟩ := pl_reads I h2 r2
  exact PySem.SeqAt.compareNe_reads q1 q2 (Pl.lay _ _ h1) (Pl.lay _ _ h2) (room_le hr hd) q
theorem cmp_inL (hr : Room k X.A) (I : Inv X pins σ H s) (h1 : Pl (kp X) H v d) (h2 : Pl (kp X) H u (.list xs)) (r1 : RelV v a) (r2 : RelV u b) (hd : d.depth ≤ 64) (q : Q (.bool (xs.any fun y => PyData.eqv y d)) s) : wpAny (model X.prog X.w) X.A (compareOp .In a b) Q E s := by
  obtain ⟨as, q1⟩ := pl_reads I h1 r1
  obtain ⟨bs, q2⟩ := pl_reads I h2 r2
  refine PySem.SeqAt.in_list_reads q2 q1 (by have := Pl.lay _ _ h2; simpa only [PyData.canLay0] using this) (Pl.lay _ _ h1) ?_ q
  have := hr.un
  have := Nat.min_le_right (PyData.depthAll xs) d.depth
  omega
theorem cmp_inT (hr : Room k X.A) (I : Inv X pins σ H s) (h1 : Pl (kp X) H v d) (h2 : Pl (kp X) H u (.tuple xs)) (r1 : RelV v a) (r2 : RelV u b) (hd : d.depth ≤ 64) (q : Q (.bool (xs.any fun y => PyData.eqv y d)) s) : wpAny (model X.prog X.w) X.A (compareOp .In a b) Q E s := by
  obtain ⟨as, q1⟩ := pl_reads I h1 r1
  obtain ⟨bs, q2⟩ := pl_reads I h2 r2
  refine PySem.SeqAt.in_tuple_reads q2 q1 (by have := Pl.lay _ _ h2; simpa only [PyData.canLay0] using this) (Pl.lay _ _ h1) ?_ q
  have := hr.un
  have := Nat.min_le_right (PyData.depthAll xs) d.depth
  omega
theorem cmp_niL (hr : Room k X.A) (I : Inv X pins σ H s) (h1 : Pl (kp X) H v d) (h2 : Pl (kp X) H u (.list xs)) (r1 : RelV v a) (r2 : RelV u b) (hd : d.depth ≤ 64) (q : Q (.bool (!xs.any fun y => PyData.eqv y d)) s) : wpAny (model X.prog X.w) X.A (compareOp .NotIn a b) Q E s := by
  obtain ⟨as, q1⟩ := pl_reads I h1 r1
  obtain ⟨bs, q2⟩ := pl_reads I h2 r2
  refine PySem.SeqAt.notIn_list_reads q2 q1 (by have := Pl.lay _ _ h2; simpa only [PyData.canLay0] using this) (Pl.lay _ _ h1) ?_ q
  have := hr.un
  have := Nat.min_le_right (PyData.depthAll xs) d.depth
  omega
theorem cmp_niT (hr : Room k X.A) (I : Inv X pins σ H s) (h1 : Pl (kp X) H v d) (h2 : Pl (kp X) H u (.tuple xs)) (r1 : RelV v a) (r2 : RelV u b) (hd : d.depth ≤ 64) (q : Q (.bool (!xs.any fun y => PyData.eqv y d)) s) : wpAny (model X.prog X.w) X.A (compareOp .NotIn a b) Q E s := by
  obtain ⟨as, q1⟩ := pl_reads I h1 r1
  obtain ⟨bs, q2⟩ := pl_reads I h2 r2
  refine PySem.SeqAt.notIn_tuple_reads q2 q1 (by have := Pl.lay _ _ h2; simpa only [PyData.canLay0] using this) (Pl.lay _ _ h1) ?_ q
  have := hr.un
  have := Nat.min_le_right (PyData.depthAll xs) d.depth
  omega
theorem cmp_ltD (hr : Room k X.A) (I : Inv X pins σ H s) (h1 : Pl (kp X) H v d) (h2 : Pl (kp X) H u e) (r1 : RelV v a) (r2 : RelV u b) (ha : PySem.W.alike d e = true) (hn : d ≠ .none) (hd : min d.depth e.depth ≤ 64) (q : Q (.bool (PySem.W.dataLt d e)) s) : wpAny (model X.prog X.w) X.A (compareOp .Lt a b) Q E s := by
  obtain ⟨as, q1⟩ := pl_reads I h1 r1
  obtain ⟨bs, q2⟩ := pl_reads I h2 r2
  exact PySem.W.rcLt_alike d e X.A s a b as bs q1 q2 ha hn (room_le hr hd) X.prog X.w E Q q
theorem bool_fin {Γ : Gc} {σ' : L2.St} {Wx : WX} {W : Wd} {st : Sto} {Q : VK} {c : Bool} (I : Inv X pins σ H s) (R : Rel Γ.T (kp X) W H st) (p : Post Γ X (RVs Γ X σ') σ' Wx W H st (bool c st) Q) : EP X pins σ Q (.bool c) s :=
  ⟨.bl c, H, I, rfl, fin_d p R (.pl (.bl c))⟩
end
theorem vw_non {Γ : Gc} {X : Cx} {P : L2.St → Prop} {W : Wd} {H : Hp} {st st' : Sto} {n : Nat} {v : V} {x : Val} {d : PyData} (r : RV Γ X P W H n v x) (h : vw x st = .ok d st') : v = .non ↔ d = .none := by
  unfold vw at h
  cases x with
  | d z =>
    cases h
    cases r with
    | pl r => cases r <;> simp
    | dk a b => simp
    | dt a b => simp
  | o l =>
    obtain ⟨_, rfl⟩ := r
    cases e : st[l]? with
    | none => simp only [e] at h; cases h
    | some c => cases c <;> simp only [e] at h <;> cases h <;> simp
  | c k ws => cases h
  | g f => cases h
def cb (op : CmpOp) (x y : Val) : M Val := M.bind (inCmp op x y) fun c => bool c
section
variable {Γ : Gc} {X : Cx} {k : Nat}
theorem rB_cb {op : CmpOp} {v u : V} {H : Hp} {Q : VK} (h : rB Γ X (cb op) v u H Q) : ∃ σ Wx W st x y d e, Rel Γ.T (kp X) W H st ∧ RVs Γ X σ W H st.length v x ∧ RVs Γ X σ W H st.length u y ∧ vw x st = .ok d st ∧ vw y st = .ok e st ∧ Post Γ X (RVs Γ X σ) σ Wx W H st (M.bind (cmpD op d e) (fun c => bool c) st) Q := by
  obtain ⟨σ, Wx, W, st, x, y, R, r1, r2, p⟩ := h
  unfold cb inCmp at p
  rw [M.bind_assoc] at p
  unfold M.bind at p
  cases e1 : vw x st with
  | ok d s1 =>
    rw [e1] at p
    have := vw_st e1
    subst this
    simp only at p
    cases e2 : vw y s1 with
    | ok e s2 =>
      rw [e2] at p
      have := vw_st e2
      subst this
      exact ⟨σ, Wx, W, _, x, y, d, e, R, r1, r2, e1, e2, p⟩
    | err ex s2 => exact (vw_err e2).elim
    | bad => rw [e2] at p; exact p.elim
  | err ex s2 => exact (vw_err e1).elim
  | bad => rw [e1] at p; exact p.elim
theorem op_cmp (hr : Room k X.A) (op : CmpOp) : OpR X (compareOp op) (rB Γ X (cb op)) := by
  intro pins s σ' H v u a b Q I rv ru h
  obtain ⟨σ, Wx, W, st, x, y, d, e, R, r1, r2, e1, e2, p⟩ := rB_cb h
  cases op with
  | Eq =>
    unfold cmpD eqD at p
    simp only at p
    split at p
    · rename_i hc
      simp only [Bool.and_eq_true, Bool.not_eq_true', decide_eq_true_eq] at hc
      exact cmp_eqD hr I (vw_pl R r1 e1 hc.1.1) (vw_pl R r2 e2 hc.1.2) rv ru hc.2 (bool_fin I R p)
    · exact p.elim
  | NotEq =>
    unfold cmpD eqD at p
    simp only at p
    split at p
    · rename_i hc
      simp only [Bool.and_eq_true, Bool.not_eq_true', decide_eq_true_eq] at hc
      exact cmp_neD hr I (vw_pl R r1 e1 hc.1.1) (vw_pl R r2 e2 hc.1.2) rv ru hc.2 (bool_fin I R p)
    · exact p.elim
  | Lt =>
    unfold cmpD ltD at p
    simp only at p
    split at p
    · have q1 := vw_int r1 e1
      have q2 := vw_int r2 e2
      exact op_lt pins s σ' H v u a b Q I rv ru ⟨_, _, q1, q2, fin_d p R (.pl (.bl _))⟩
    · obtain ⟨q1, o1, l1⟩ := vw_str r1 e1
      obtain ⟨q2, o2, l2⟩ := vw_str r2 e2
      exact op_lt_str pins s σ' H v u a b Q I rv ru ⟨_, _, q1, q2, fin_d p R (.pl (.bl _))⟩
    · split at p
      · rename_i hc
        simp only [Bool.and_eq_true, decide_eq_true_eq] at hc
        exact cmp_ltD hr I (vw_pl R r1 e1 rfl) (vw_pl R r2 e2 rfl) rv ru hc.1 (by intro z; cases z) hc.2 (bool_fin I R p)
      · exact p.elim
    · exact p.elim
  | LtE =>
    unfold cmpD at p
    simp only at p
    split at p
    · exact op_le pins s σ' H v u a b Q I rv ru ⟨_, _, vw_int r1 e1, vw_int r2 e2, fin_d p R (.pl (.bl _))⟩
    · exact p.elim
  | Gt =>
    unfold cmpD at p
    simp only at p
    split at p
    · exact op_gt pins s σ' H v u a b Q I rv ru ⟨_, _, vw_int r1 e1, vw_int r2 e2, fin_d p R (.pl (.bl _))⟩
    · exact p.elim
  | GtE =>
    unfold cmpD at p
    simp only at p
    split at p
    · exact op_ge pins s σ' H v u a b Q I rv ru ⟨_, _, vw_int r1 e1, vw_int r2 e2, fin_d p R (.pl (.bl _))⟩
    · exact p.elim
  | Is =>
    unfold cmpD at p
    simp only at p
    split at p
    · exact op_isN pins s σ' H v u a b Q I rv ru ⟨(vw_non r2 e2).2 rfl, by rw [(vw_non r1 e1).2 rfl]; exact fin_d p R (.pl (.bl _))⟩
    · rename_i hd
      have : v ≠ .non := fun z => hd (by exact (vw_non r1 e1).1 z)
      exact op_isN pins s σ' H v u a b Q I rv ru ⟨(vw_non r2 e2).2 rfl, by rw [decide_eq_false this]; exact fin_d p R (.pl (.bl _))⟩
    · exact p.elim
  | IsNot =>
    unfold cmpD at p
    simp only at p
    split at p
    · exact op_notN pins s σ' H v u a b Q I rv ru ⟨(vw_non r2 e2).2 rfl, by rw [(vw_non r1 e1).2 rfl]; exact fin_d p R (.pl (.bl _))⟩
    · rename_i hd
      have : v ≠ .non := fun z => hd (by exact (vw_non r1 e1).1 z)
      exact op_notN pins s σ' H v u a b Q I rv ru ⟨(vw_non r2 e2).2 rfl, by rw [decide_eq_false this]; exact fin_d p R (.pl (.bl _))⟩
    · exact p.elim
  | In =>
    unfold cmpD inD at p
    simp only at p
    split at p
    · obtain ⟨q1, o1, l1⟩ := vw_str r1 e1
      obtain ⟨q2, o2, l2⟩ := vw_str r2 e2
      exact op_in_str pins s σ' H v u a b Q I rv ru ⟨_, _, q1, q2, fin_d p R (.pl (.bl _))⟩
    · split at p
      · rename_i hc
        simp only [Bool.and_eq_true, Bool.not_eq_true', decide_eq_true_eq] at hc
        exact cmp_inL hr I (vw_pl R r1 e1 hc.1) (vw_pl R r2 e2 rfl) rv ru hc.2 (bool_fin I R p)
      · exact p.elim
    · split at p
      · rename_i hc
        simp only [Bool.and_eq_true, Bool.not_eq_true', decide_eq_true_eq] at hc
        exact cmp_inT hr I (vw_pl R r1 e1 hc.1) (vw_pl R r2 e2 rfl) rv ru hc.2 (bool_fin I R p)
      · exact p.elim
    · exact p.elim
  | NotIn =>
    unfold cmpD inD at p
    simp only at p
    split at p
    · obtain ⟨q1, o1, l1⟩ := vw_str r1 e1
      obtain ⟨q2, o2, l2⟩ := vw_str r2 e2
      exact op_notin_str pins s σ' H v u a b Q I rv ru ⟨_, _, q1, q2, fin_d p R (.pl (.bl _))⟩
    · split at p
      · rename_i hc
        simp only [Bool.and_eq_true, Bool.not_eq_true', decide_eq_true_eq] at hc
        exact cmp_niL hr I (vw_pl R r1 e1 hc.1) (vw_pl R r2 e2 rfl) rv ru hc.2 (bool_fin I R p)
      · exact p.elim
    · split at p
      · rename_i hc
        simp only [Bool.and_eq_true, Bool.not_eq_true', decide_eq_true_eq] at hc
        exact cmp_niT hr I (vw_pl R r1 e1 hc.1) (vw_pl R r2 e2 rfl) rv ru hc.2 (bool_fin I R p)
      · exact p.elim
    · exact p.elim
end
end Fx

set_option Elab.async false
set_option linter.all false
set_option maxRecDepth 100000
set_option maxHeartbeats 4000000
/-! Fx8: items, slices, calls of what is built in, by values. -/
namespace Fx
open PySem PySem.Spec PyProof.Rows L2 NdefX LamX
section
variable {α β γ : Type} {Γ : Gc} {X : Cx} {R : Rl α β} {σ : L2.St} {Wx : WX} {W : Wd} {H : Hp} {st : Sto} {x : Val} {Q : β → Hp → Prop} {P : L2.St → Prop} {v : V} {n : Nat}
theorem post_vw {g : PyData → M α} (p : Post Γ X R σ Wx W H st (M.bind (vw x) g st) Q) : ∃ d, vw x st = .ok d st ∧ Post Γ X R σ Wx W H st (g d st) Q := by
  unfold M.bind at p
  cases e : vw x st with
  | ok d s1 =>
    rw [e] at p
    have := vw_st e
    subst this
    exact ⟨d, rfl, p⟩
  | err ex s2 => exact (vw_err e).elim
  | bad => rw [e] at p; exact p.elim
theorem post_dat {g : PyData → M α} (p : Post Γ X R σ Wx W H st (M.bind (dat x) g st) Q) : ∃ d, x = .d d ∧ Post Γ X R σ Wx W H st (g d st) Q := by
  cases x with
  | d z => exact ⟨z, rfl, p⟩
  | o l => exact p.elim
  | c k ws => exact p.elim
  | g f => exact p.elim
theorem post_datP {g : PyData → M α} (p : Post Γ X R σ Wx W H st (M.bind (datP x) g st) Q) : ∃ d, x = .d d ∧ isDct d = false ∧ Post Γ X R σ Wx W H st (g d st) Q := by
  cases x with
  | d z =>
    unfold datP at p
    cases e : isDct z with
    | false =>
      simp only [e, Bool.false_eq_true, if_false] at p
      exact ⟨z, rfl, e, p⟩
    | true =>
      simp only [e, if_true] at p
      exact p.elim
  | o l => exact p.elim
  | c k ws => exact p.elim
  | g f => exact p.elim
theorem post_int {g : Int → M α} (p : Post Γ X R σ Wx W H st (M.bind (intV x) g st) Q) : ∃ i, x = .d (.int i) ∧ Post Γ X R σ Wx W H st (g i st) Q := by
  cases x with
  | d z => cases z <;> first | exact ⟨_, rfl, p⟩ | exact p.elim
  | o l => exact p.elim
  | c k ws => exact p.elim
  | g f => exact p.elim
theorem post_bln {g : Bool → M α} (p : Post Γ X R σ Wx W H st (M.bind (bln x) g st) Q) : ∃ b, x = .d (.bool b) ∧ Post Γ X R σ Wx W H st (g b st) Q := by
  cases x with
  | d z => cases z <;> first | exact ⟨_, rfl, p⟩ | exact p.elim
  | o l => exact p.elim
  | c k ws => exact p.elim
  | g f => exact p.elim
theorem dctOf_st {q : Bool × List (PyData × PyData)} {st' : Sto} (h : dctOf x st = .ok q st') : st' = st := by
  unfold dctOf at h
  cases x with
  | d z =>
    cases z with
    | dict ps => cases ps <;> cases h <;> rfl
    | _ => cases h
  | o l =>
    cases e : st[l]? with
    | none => simp only [e] at h; cases h
    | some c => cases c <;> simp only [e] at h <;> cases h <;> rfl
  | c k ws => cases h
  | g f => cases h
theorem dctOf_err {ex : Exn} {st' : Sto} (h : dctOf x st = .err ex st') : False := by
  unfold dctOf at h
  cases x with
  | d z =>
    cases z with
    | dict ps => cases ps <;> cases h
    | _ => cases h
  | o l =>
    cases e : st[l]? with
    | none => simp only [e] at h; cases h
    | some c => cases c <;> simp only [e] at h <;> cases h
  | c k ws => cases h
  | g f => cases h
theorem post_dct {g : Bool × List (PyData × PyData) → M α} (p : Post Γ X R σ Wx W H st (M.bind (dctOf x) g st) Q) : ∃ q, dctOf x st = .ok q st ∧ Post Γ X R σ Wx W H st (g q st) Q := by
  unfold M.bind at p
  cases e : dctOf x st with
  | ok d s1 =>
    rw [e] at p
    have := dctOf_st e
    subst this
    exact ⟨d, rfl, p⟩
  | err ex s2 => exact (dctOf_err e).elim
  | bad => rw [e] at p; exact p.elim
theorem rv_d {d : PyData} (r : RV Γ X P W H n v (.d d)) : Rp (kp X) W.Hs v d := r
theorem rv_int {i : Int} (r : RV Γ X P W H n v (.d (.int i))) : v = .int i := by cases (Rp.plain r rfl); rfl
theorem rv_bool {i : Bool} (r : RV Γ X P W H n v (.d (.bool i))) : v = .bl i := by cases (Rp.plain r rfl); rfl
theorem rv_str {z : Str} (r : RV Γ X P W H n v (.d (.str z))) : v = .str z ∧ PyData.strOk z = true ∧ z.length ≤ sizeLine := by cases (Rp.plain r rfl) with | str _ a b => exact ⟨rfl, a, b⟩
theorem pl_dat {st' : Sto} {d : PyData} (Rl : Rel Γ.T (kp X) W H st') (r : RV Γ X P W H n v (.d d)) (h : isDct d = false) : Pl (kp X) H v d := Pl.sub Rl.sub _ _ (Rp.plain r h)
/-- a dict that is asked: what stands at its address -/
theorem dct_at (Rl : Rel Γ.T (kp X) W H st) (r : RV Γ X P W H n v x) {q : Bool × List (PyData × PyData)} (h : dctOf x st = .ok q st) :
    ∃ a, v = .ref a ∧ ((q.1 = false ∧ ∃ kvs, Rd H a (.dK kvs) ∧ KP (kp X) W.Hs kvs q.2) ∨ (q.1 = true ∧ ∃ kvs, Rd H a (TD (kp X) a kvs) ∧ TP (kp X) W.Hs kvs q.2)) := by
  unfold dctOf at h
  cases x with
  | d z =>
    cases z with
    | dict ps =>
      cases ps with
      | nil => cases h
      | cons p ps =>
        obtain ⟨k, y⟩ := p
        cases h
        cases r with
        | pl r => cases r
        | dk a b =>
          refine ⟨_, rfl, .inl ⟨?_, _, Rl.sub.rd (fun _ _ z => by cases z) (.of a), b⟩⟩
          cases b with
          | cons b1 b2 =>
            rename_i kv _
            obtain ⟨k1, v1⟩ := kv
            obtain ⟨e1, _, _⟩ := b1
            have e1 : k = keyD k1 := e1
            rw [e1]
            cases k1 <;> rfl
        | dt a b =>
          refine ⟨_, rfl, .inr ⟨?_, _, Rl.sub.rd (fun _ _ z => by unfold TD at z; cases z) (.of a), b⟩⟩
          cases b with
          | cons b1 b2 =>
            rename_i kv _
            obtain ⟨k1, v1⟩ := kv
            obtain ⟨e1, _, _⟩ := b1
            have e1 : k = tkD k1 := e1
            rw [e1]
            rfl
    | _ => cases h
  | o l =>
    obtain ⟨_, rfl⟩ := r
    cases e : st[l]? with
    | none => simp only [e] at h; cases h
    | some c =>
      cases c with
      | dead => simp only [e] at h; cases h
      | lst xs => simp only [e] at h; cases h
      | dct tk ps =>
        simp only [e] at h
        cases h
        obtain ⟨_, o, e2, q⟩ := Rl.cel l _ e (by intro z; cases z)
        cases tk with
        | false => obtain ⟨kvs, rfl, q⟩ := q; exact ⟨_, rfl, .inl ⟨rfl, _, .of e2, q⟩⟩
        | true => obtain ⟨kvs, rfl, q⟩ := q; exact ⟨_, rfl, .inr ⟨rfl, _, .of e2, q⟩⟩
  | c k ws => cases h
  | g f => cases h
end
/-! ### items -/
section
variable {Γ : Gc} {X : Cx}
theorem atI_pl {K : Pw} {H : Hp} {vs : List V} {ds : List PyData} {i : Int} {d : PyData} (p : PlA K H vs ds) (h : atI ds i = some d) : ∃ v, atI vs i = some v ∧ Pl K H v d := by
  unfold atI at h ⊢
  rw [← p.length] at h
  cases e : ixN vs.length i with
  | none => rw [e] at h; cases h
  | some j => rw [e] at h; exact p.get h
def subB (v w : Val) : M Val := M.bind (dat w) fun i => subV v i
theorem rB_open {F : Val → Val → M Val} {v u : V} {H : Hp} {Q : VK} (h : rB Γ X F v u H Q) : ∃ σ Wx W st x y, Rel Γ.T (kp X) W H st ∧ RVs Γ X σ W H st.length v x ∧ RVs Γ X σ W H st.length u y ∧ Post Γ X (RVs Γ X σ) σ Wx W H st (F x y st) Q := h
theorem ix_sub : IxR X (rB Γ X subB) := by
  intro value slice pins s σ' H v u a b Q I rv ru h hs
  obtain ⟨σ, Wx, W, st, x, y, R, r1, r2, p0⟩ := h
  obtain ⟨i, rfl, p1⟩ := post_dat p0
  obtain ⟨d, e1, p⟩ := post_vw p1
  split at p
  · rename_i xs k
    obtain ⟨l, vs, rfl, h1, hz, q⟩ := vw_list R r1 e1
    cases ey : atI xs k with
    | some y =>
      simp only [ey] at p
      obtain ⟨z, ez, qz⟩ := atI_pl q ey
      exact ix_list value slice pins s σ' H _ _ a b Q I rv ru ⟨l, vs, k, z, rfl, rv_int r2, .inl h1, ez, fin_d p R (.pl qz)⟩ hs
    | none => simp only [ey] at p; exact p.elim
  · rename_i xs k
    obtain ⟨l, o, vs, rfl, h1, hn, hz, q⟩ := vw_tup R r1 e1
    cases ey : atI xs k with
    | some y =>
      simp only [ey] at p
      obtain ⟨z, ez, qz⟩ := atI_pl q ey
      exact ix_tup value slice pins s σ' H _ _ a b Q I rv ru ⟨l, vs, k, z, rfl, rv_int r2, .inl (.inr ⟨_, h1⟩), ez, fin_d p R (.pl qz)⟩ hs
    | none => simp only [ey] at p; exact p.elim
  · rename_i z k
    obtain ⟨q1, o1, l1⟩ := vw_str r1 e1
    cases ec : atI z.cps.toList k with
    | none => simp only [ec] at p; exact p.elim
    | some c =>
      simp only [ec] at p
      refine ix_str value slice pins s σ' H _ _ a b Q I rv ru ⟨z, k, c, q1, rv_int r2, l1, ec, fin_d p R (.pl (.str _ ?_ ?_))⟩ hs
      · unfold atI at ec
        obtain ⟨j, _, hj⟩ := Option.bind_eq_some_iff.mp ec
        unfold PyData.strOk at o1 ⊢
        rw [Array.all_eq_true'] at o1
        have hm : c ∈ z.cps := by
          have := List.mem_of_getElem? hj
          simpa using this
        have := o1 c hm
        simpa using this
      · show 1 ≤ sizeLine
        rw [sizeLine_eq]
        decide
  · exact p.elim
/-! ### slices -/
theorem cut_pl {K : Pw} {H : Hp} {vs : List V} {ds : List PyData} (p : PlA K H vs ds) (lo hi : Option Int) : PlA K H (cutV vs lo hi) (cut ds lo hi) := by
  unfold cutV cut
  rw [p.length]
  exact (p.drop _).take _
def rSl (Γ : Gc) (X : Cx) : V → Option Int → Option Int → Hp → VK → Prop := fun v lo hi H Q => ∃ σ Wx W st x, Rel Γ.T (kp X) W H st ∧ RVs Γ X σ W H st.length v x ∧ Post Γ X (RVs Γ X σ) σ Wx W H st (slcV x lo hi st) Q
theorem cutS_ok {z : Str} (h : PyData.strOk z = true) (lo hi : Option Int) : PyData.strOk (cutS z lo hi) = true := by
  unfold PyData.strOk cutS at *
  rw [Array.all_eq_true'] at h ⊢
  intro c hc
  refine h c ?_
  have hc : c ∈ (z.cps.toList.drop (HT.sIx z.length 0 lo)).take (HT.sIx z.length z.length hi - HT.sIx z.length 0 lo) := by simpa using hc
  simpa using List.mem_of_mem_drop (List.mem_of_mem_take hc)
/-- a part of a tuple: what is made is known -/
theorem sl_tupF : SlR X (fun x lo hi H Q => ∃ a xs, x = .ref a ∧ SqT X.K H a xs ∧ (HT.sIx xs.length 0 lo = 0 ∧ HT.sIx xs.length xs.length hi = xs.length → Q (.ref a) H) ∧
    (¬ (HT.sIx xs.length 0 lo = 0 ∧ HT.sIx xs.length xs.length hi = xs.length) → ∀ p o, o.dict = none → H p = none → Q (.ref p) (upd H p (.frz o (.tup (cutV xs lo hi)))))) := by
  intro pins s σ H x v vl vu lo hi sl Q I rx hs pl pu h
  obtain ⟨a, xs, rfl, hx, q1, q2⟩ := h
  cases rx
  obtain ⟨its, r, ht, hz⟩ := I.tuple hx
  have hlen : its.toArray.size = xs.length := by rw [List.size_toArray]; exact r.length.symm
  refine ⟨"tuple", _, PyProof.Rows.slot_tuple_getitem.lookup, ht.typeIs, ?_⟩
  by_cases hw : HT.sIx xs.length 0 lo = 0 ∧ HT.sIx xs.length xs.length hi = xs.length
  · exact getItem_tuple_whole ht hs pl pu (by rw [hlen]; exact hw) ⟨.ref a, H, I, rfl, q1 hw⟩
  · refine HT.getItem_tuple_cut ht hs pl pu (by rw [hlen]; exact hw) ?_ (by rw [hlen]; exact hz)
    rw [hlen]
    refine ⟨.ref s.heap.objs.size, _, newT (t' := s.toks) I (xs := cutV xs lo hi) ?_ (Nat.le_trans (cutV_length xs lo hi) hz), rfl, q2 hw _ _ rfl I.fresh⟩
    exact (r.drop _).take _
theorem sl_slc : SlR X (rSl Γ X) := by
  intro pins s σ' H v a vl vu lo hi sl Q I rv hs pl pu h
  obtain ⟨σ, Wx, W, st, x, R, r1, p0⟩ := h
  obtain ⟨d, e1, p⟩ := post_vw p0
  split at p
  · rename_i xs
    obtain ⟨l, vs, rfl, h1, hz, q⟩ := vw_list R r1 e1
    exact sl_list pins s σ' H _ a vl vu lo hi sl Q I rv hs pl pu ⟨l, vs, rfl, .inl h1, fun p' hp => fin_new p R hp fun Hs m e => pl_lst (cut_pl q lo hi) (Nat.le_trans (cutV_length vs lo hi) hz) m e⟩
  · rename_i xs
    have t1 := vw_td e1
    subst t1
    obtain ⟨l, o, vs, rfl, h1, hn, hz, q⟩ := vw_tup R r1 e1
    refine sl_tupF pins s σ' H _ a vl vu lo hi sl Q I rv hs pl pu ⟨l, vs, rfl, .inl (.inr ⟨_, h1⟩), fun z => ?_, fun _ p' o n hp => fin_new p R hp fun Hs m e => pl_tup (cut_pl q lo hi) (Nat.le_trans (cutV_length vs lo hi) hz) m n e⟩
    have : cut xs lo hi = xs := by
      unfold cut
      rw [← q.length, z.1, z.2]
      simp [q.length]
    rw [this] at p
    exact fin_d p R r1
  · rename_i z
    obtain ⟨q1, o1, l1⟩ := vw_str r1 e1
    exact sl_str pins s σ' H _ a vl vu lo hi sl Q I rv hs pl pu ⟨z, q1, l1, fin_d p R (.pl (.str _ (cutS_ok o1 lo hi) (Nat.le_trans (cutS_length z lo hi) l1)))⟩
  · exact p.elim
end
end Fx

set_option Elab.async false
set_option linter.all false
set_option maxRecDepth 100000
set_option maxHeartbeats 4000000
/-! Fx9: calls of what is built in, by values. -/
namespace Fx
open PySem PySem.Spec PyProof.Rows L2 NdefX LamX
def rN (Γ : Gc) (X : Cx) (F : List Val → M Val) : List V → Hp → VK → Prop := fun vs H Q => ∃ σ Wx W st xs, Rel Γ.T (kp X) W H st ∧ RVl Γ X σ W H st.length vs xs ∧ Post Γ X (RVs Γ X σ) σ Wx W H st (F xs st) Q
section
variable {Γ : Gc} {X : Cx} {K : Pw} {H : Hp}
theorem ints_pl : ∀ {vs : List V} {xs : List PyData} {ns : List Int}, PlA K H vs xs → intsOf xs = some ns → vs = ns.map V.int
  | _, _, _, .nil, e => by cases e; rfl
  | _, d :: xs, ns, .cons r t, e => by
    cases d with
    | int i =>
      unfold intsOf at e
      obtain ⟨m, e1, e2⟩ := Option.map_eq_some_iff.mp e
      cases r
      rw [← e2, ints_pl t e1]
      rfl
    | _ => cases e
theorem bools_pl : ∀ {vs : List V} {xs : List PyData} {ns : List Bool}, PlA K H vs xs → boolsOf xs = some ns → vs = ns.map V.bl
  | _, _, _, .nil, e => by cases e; rfl
  | _, d :: xs, ns, .cons r t, e => by
    cases d with
    | bool i =>
      unfold boolsOf at e
      obtain ⟨m, e1, e2⟩ := Option.map_eq_some_iff.mp e
      cases r
      rw [← e2, bools_pl t e1]
      rfl
    | _ => cases e
theorem maxI_ge : ∀ (r : List Int) (x : Int), x ≤ maxI x r ∧ (∀ y ∈ r, y ≤ maxI x r) ∧ (maxI x r = x ∨ maxI x r ∈ r)
  | [], x => ⟨Int.le_refl _, fun _ h => (by cases h), .inl rfl⟩
  | y :: r, x => by
    have e : maxI x (y :: r) = maxI (if y > x then y else x) r := rfl
    obtain ⟨h1, h2, h3⟩ := maxI_ge r (if y > x then y else x)
    have hm : x ≤ (if y > x then y else x) ∧ y ≤ (if y > x then y else x) := by split <;> omega
    rw [e]
    refine ⟨Int.le_trans hm.1 h1, fun z hz => ?_, ?_⟩
    · rcases List.mem_cons.mp hz with rfl | hz
      · exact Int.le_trans hm.2 h1
      · exact h2 z hz
    · rcases h3 with h3 | h3
      · rw [h3]
        split
        · exact .inr List.mem_cons_self
        · exact .inl rfl
      · exact .inr (List.mem_cons_of_mem _ h3)
theorem minI_le : ∀ (r : List Int) (x : Int), minI x r ≤ x ∧ (∀ y ∈ r, minI x r ≤ y) ∧ (minI x r = x ∨ minI x r ∈ r)
  | [], x => ⟨Int.le_refl _, fun _ h => (by cases h), .inl rfl⟩
  | y :: r, x => by
    have e : minI x (y :: r) = minI (if y < x then y else x) r := rfl
    obtain ⟨h1, h2, h3⟩ := minI_le r (if y < x then y else x)
    have hm : (if y < x then y else x) ≤ x ∧ (if y < x then y else x) ≤ y := by split <;> omega
    rw [e]
    refine ⟨Int.le_trans h1 hm.1, fun z hz => ?_, ?_⟩
    · rcases List.mem_cons.mp hz with rfl | hz
      · exact Int.le_trans h1 hm.2
      · exact h2 z hz
    · rcases h3 with h3 | h3
      · rw [h3]
        split
        · exact .inr List.mem_cons_self
        · exact .inl rfl
      · exact .inr (List.mem_cons_of_mem _ h3)
theorem maxI_eq {x m : Int} {r : List Int} (h : m ∈ x :: r) (g : ∀ y ∈ x :: r, y ≤ m) : m = maxI x r := by
  obtain ⟨h1, h2, h3⟩ := maxI_ge r x
  have a : maxI x r ≤ m := by
    rcases h3 with h3 | h3
    · rw [h3]; exact g x List.mem_cons_self
    · exact g _ (List.mem_cons_of_mem _ h3)
  have b : m ≤ maxI x r := by
    rcases List.mem_cons.mp h with rfl | h
    · exact h1
    · exact h2 m h
  omega
theorem minI_eq {x m : Int} {r : List Int} (h : m ∈ x :: r) (g : ∀ y ∈ x :: r, m ≤ y) : m = minI x r := by
  obtain ⟨h1, h2, h3⟩ := minI_le r x
  have a : m ≤ minI x r := by
    rcases h3 with h3 | h3
    · rw [h3]; exact g x List.mem_cons_self
    · exact g _ (List.mem_cons_of_mem _ h3)
  have b : minI x r ≤ m := by
    rcases List.mem_cons.mp h with rfl | h
    · exact h1
    · exact h2 m h
  omega
theorem one_of {α β : Type} {R : α → β → Prop} : ∀ {vs : List α} {x : β}, Paired R vs [x] → ∃ v, vs = [v] ∧ R v x
  | _, _, .cons r .nil => ⟨_, rfl, r⟩
theorem two_of {α β : Type} {R : α → β → Prop} : ∀ {vs : List α} {x y : β}, Paired R vs [x, y] → ∃ v u, vs = [v, u] ∧ R v x ∧ R u y
  | _, _, _, .cons r (.cons q .nil) => ⟨_, _, rfl, r, q⟩
/-! ### len -/
theorem cr_len {ob : Bool} : CallR X (.builtin "len") (rN Γ X (biV .len ob)) := by
  intro pins s σ' H vs us Q I rv h
  obtain ⟨σ, Wx, W, st, xs, R, rs, p0⟩ := h
  match xs, rs, p0 with
  | [x], rs, p0 =>
    obtain ⟨v, rfl, r1⟩ := one_of rs
    obtain ⟨d, e1, p⟩ := post_vw p0
    split at p
    · rename_i z
      obtain ⟨q1, o1, l1⟩ := vw_str r1 e1
      subst q1
      exact call_len pins s σ' H _ us Q I rv ⟨_, _, rfl, ⟨l1, rfl⟩, fin_d p R (.pl (.int _))⟩
    · obtain ⟨l, vs, rfl, h1, hz, q⟩ := vw_list R r1 e1
      exact call_len pins s σ' H _ us Q I rv ⟨_, _, rfl, .inl ⟨_, .inl h1, q.length.symm⟩, fin_d p R (.pl (.int _))⟩
    · obtain ⟨l, o, vs, rfl, h1, hn, hz, q⟩ := vw_tup R r1 e1
      exact call_len pins s σ' H _ us Q I rv ⟨_, _, rfl, .inr ⟨_, .inl (.inr ⟨_, h1⟩), q.length.symm⟩, fin_d p R (.pl (.int _))⟩
    · exact p.elim
  | [], _, p0 => exact p0.elim
  | _ :: _ :: _, _, p0 => exact p0.elim
/-! ### max, min, sum, all, any -/
theorem cr_maxF (hc : X.calm = true) {ob : Bool} : CallR X (.builtin "max") (rN Γ X (biV .max ob)) := by
  intro pins s σ' H vs us Q I rv h
  obtain ⟨σ, Wx, W, st, xs, R, rs, p0⟩ := h
  match xs, rs, p0 with
  | [x], rs, p0 =>
    obtain ⟨v, rfl, r1⟩ := one_of rs
    obtain ⟨d, e1, p⟩ := post_vw p0
    split at p
    · rename_i xs
      obtain ⟨l, vs, rfl, h1, hz, q⟩ := vw_list R r1 e1
      cases e : intsOf xs with
      | none => simp only [e] at p; exact p.elim
      | some ns =>
        simp only [e] at p
        have ev := ints_pl q e
        subst ev
        cases ns with
        | nil => exact p.elim
        | cons m r => exact cr_max hc pins s σ' H _ us Q I rv ⟨_, _, rfl, .inl h1, Nat.succ_pos _, fun y hy hg => by rw [maxI_eq hy hg]; exact fin_d p R (.pl (.int _))⟩
    · exact p.elim
  | [], _, p0 => exact p0.elim
  | _ :: _ :: _, _, p0 => exact p0.elim
theorem cr_max2 (hc : X.calm = true) {ob : Bool} : CallR X (.builtin "max") (rN Γ X (biV .max2 ob)) := by
  intro pins s σ' H vs us Q I rv h
  obtain ⟨σ, Wx, W, st, xs, R, rs, p0⟩ := h
  match xs, rs, p0 with
  | [x, y], rs, p0 =>
    obtain ⟨v, u, rfl, r1, r2⟩ := two_of rs
    obtain ⟨i, rfl, p1⟩ := post_int p0
    obtain ⟨j, rfl, p2⟩ := post_int p1
    exact call_max2 hc pins s σ' H _ us Q I rv ⟨i, j, by rw [rv_int r1, rv_int r2], fin_d p2 R (.pl (.int _))⟩
  | [], _, p0 => exact p0.elim
  | [_], _, p0 => exact p0.elim
  | _ :: _ :: _ :: _, _, p0 => exact p0.elim
theorem cr_minF (hc : X.calm = true) {ob : Bool} : CallR X (.builtin "min") (rN Γ X (biV .min ob)) := by
  intro pins s σ' H vs us Q I rv h
  obtain ⟨σ, Wx, W, st, xs, R, rs, p0⟩ := h
  match xs, rs, p0 with
  | [x], rs, p0 =>
    obtain ⟨v, rfl, r1⟩ := one_of rs
    obtain ⟨d, e1, p⟩ := post_vw p0
    split at p
    · rename_i xs
      obtain ⟨l, vs, rfl, h1, hz, q⟩ := vw_list R r1 e1
      cases e : intsOf xs with
      | none => simp only [e] at p; exact p.elim
      | some ns =>
        simp only [e] at p
        have ev := ints_pl q e
        subst ev
        cases ns with
        | nil => exact p.elim
        | cons m r => exact cr_min hc pins s σ' H _ us Q I rv ⟨_, _, rfl, .inl h1, Nat.succ_pos _, fun y hy hg => by rw [minI_eq hy hg]; exact fin_d p R (.pl (.int _))⟩
    · exact p.elim
  | [], _, p0 => exact p0.elim
  | _ :: _ :: _, _, p0 => exact p0.elim
theorem cr_min2 (hc : X.calm = true) {ob : Bool} : CallR X (.builtin "min") (rN Γ X (biV .min2 ob)) := by
  intro pins s σ' H vs us Q I rv h
  obtain ⟨σ, Wx, W, st, xs, R, rs, p0⟩ := h
  match xs, rs, p0 with
  | [x, y], rs, p0 =>
    obtain ⟨v, u, rfl, r1, r2⟩ := two_of rs
    obtain ⟨i, rfl, p1⟩ := post_int p0
    obtain ⟨j, rfl, p2⟩ := post_int p1
    exact call_min2 hc pins s σ' H _ us Q I rv ⟨i, j, by rw [rv_int r1, rv_int r2], fin_d p2 R (.pl (.int _))⟩
  | [], _, p0 => exact p0.elim
  | [_], _, p0 => exact p0.elim
  | _ :: _ :: _ :: _, _, p0 => exact p0.elim
theorem cr_sumF (hc : X.calm = true) {ob : Bool} : CallR X (.builtin "sum") (rN Γ X (biV .sum ob)) := by
  intro pins s σ' H vs us Q I rv h
  obtain ⟨σ, Wx, W, st, xs, R, rs, p0⟩ := h
  match xs, rs, p0 with
  | [x], rs, p0 =>
    obtain ⟨v, rfl, r1⟩ := one_of rs
    obtain ⟨d, e1, p⟩ := post_vw p0
    split at p
    · rename_i xs
      obtain ⟨l, vs, rfl, h1, hz, q⟩ := vw_list R r1 e1
      cases e : intsOf xs with
      | none => simp only [e] at p; exact p.elim
      | some ns =>
        simp only [e] at p
        have ev := ints_pl q e
        subst ev
        exact cr_sum hc pins s σ' H _ us Q I rv ⟨_, _, rfl, .inl h1, fin_d p R (.pl (.int _))⟩
    · exact p.elim
  | [], _, p0 => exact p0.elim
  | _ :: _ :: _, _, p0 => exact p0.elim
theorem cr_allF (hc : X.calm = true) {ob : Bool} : CallR X (.builtin "all") (rN Γ X (biV .all ob)) := by
  intro pins s σ' H vs us Q I rv h
  obtain ⟨σ, Wx, W, st, xs, R, rs, p0⟩ := h
  match xs, rs, p0 with
  | [x], rs, p0 =>
    obtain ⟨v, rfl, r1⟩ := one_of rs
    obtain ⟨d, e1, p⟩ := post_vw p0
    split at p
    · rename_i xs
      obtain ⟨l, vs, rfl, h1, hz, q⟩ := vw_list R r1 e1
      cases e : boolsOf xs with
      | none => simp only [e] at p; exact p.elim
      | some ns =>
        simp only [e] at p
        have ev := bools_pl q e
        subst ev
        exact cr_all hc pins s σ' H _ us Q I rv ⟨_, _, rfl, .inl h1, fin_d p R (.pl (.bl _))⟩
    · exact p.elim
  | [], _, p0 => exact p0.elim
  | _ :: _ :: _, _, p0 => exact p0.elim
theorem cr_anyF (hc : X.calm = true) {ob : Bool} : CallR X (.builtin "any") (rN Γ X (biV .any ob)) := by
  intro pins s σ' H vs us Q I rv h
  obtain ⟨σ, Wx, W, st, xs, R, rs, p0⟩ := h
  match xs, rs, p0 with
  | [x], rs, p0 =>
    obtain ⟨v, rfl, r1⟩ := one_of rs
    obtain ⟨d, e1, p⟩ := post_vw p0
    split at p
    · rename_i xs
      obtain ⟨l, vs, rfl, h1, hz, q⟩ := vw_list R r1 e1
      cases e : boolsOf xs with
      | none => simp only [e] at p; exact p.elim
      | some ns =>
        simp only [e] at p
        have ev := bools_pl q e
        subst ev
        exact cr_any hc pins s σ' H _ us Q I rv ⟨_, _, rfl, .inl h1, fin_d p R (.pl (.bl _))⟩
    · exact p.elim
  | [], _, p0 => exact p0.elim
  | _ :: _ :: _, _, p0 => exact p0.elim
theorem cr_abs {ob : Bool} : CallR X (.builtin "abs") (rN Γ X (biV .abs ob)) := by
  intro pins s σ' H vs us Q I rv h
  obtain ⟨σ, Wx, W, st, xs, R, rs, p0⟩ := h
  match xs, rs, p0 with
  | [x], rs, p0 =>
    obtain ⟨v, rfl, r1⟩ := one_of rs
    obtain ⟨i, rfl, p1⟩ := post_int p0
    exact call_abs pins s σ' H _ us Q I rv ⟨i, by rw [rv_int r1], fin_d p1 R (.pl (.int _))⟩
  | [], _, p0 => exact p0.elim
  | _ :: _ :: _, _, p0 => exact p0.elim
theorem cr_int {ob : Bool} : CallR X (.type "int") (rN Γ X (biV .int ob)) := by
  intro pins s σ' H vs us Q I rv h
  obtain ⟨σ, Wx, W, st, xs, R, rs, p0⟩ := h
  match xs, rs, p0 with
  | [x], rs, p0 =>
    obtain ⟨v, rfl, r1⟩ := one_of rs
    obtain ⟨d, rfl, p⟩ := post_dat p0
    split at p
    · exact call_int1 pins s σ' H _ us Q I rv (.inl ⟨_, by rw [rv_int r1], fin_d p R (.pl (.int _))⟩)
    · exact call_int1 pins s σ' H _ us Q I rv (.inr ⟨_, by rw [rv_bool r1], fin_d p R (.pl (.int _))⟩)
    · exact p.elim
  | [], _, p0 => exact p0.elim
  | _ :: _ :: _, _, p0 => exact p0.elim
/-! ### tuple, list -/
theorem call_tuple_ofF : CallR X (.type "tuple") (fun xs H Q => ∃ p ys, xs = [.ref p] ∧ ((SqL X.K H p ys ∧ ∀ l o, o.dict = none → H l = none → Q (.ref l) (upd H l (.frz o (.tup ys)))) ∨ (SqT X.K H p ys ∧ Q (.ref p) H))) := by
  intro pins s σ H xs us Q I r h
  obtain ⟨p, ys, rfl, h⟩ := h
  obtain ⟨u, rfl, rx⟩ := vals1 r
  cases rx
  rcases h with ⟨hq, q⟩ | ⟨hq, q⟩
  · obtain ⟨its, r', pl, hz⟩ := I.list hq
    have hlen := r'.length
    refine call_tuple_list pl.isList (fun h' kp => ?_) (by simp only [List.size_toArray] <;> omega)
    have I1 : Inv X pins σ H { s with heap := h' } := I.kept (t' := s.toks) kp
    exact ⟨.ref h'.objs.size, _, newT (t' := s.toks) I1 r' hz, rfl, q _ _ rfl I1.fresh⟩
  · obtain ⟨its, r', pl, hz⟩ := I.tuple hq
    exact call_tuple_same pl ⟨.ref p, H, I, rfl, q⟩
theorem cr_tuple {ob : Bool} : CallR X (.type "tuple") (rN Γ X (biV .tuple ob)) := by
  intro pins s σ' H vs us Q I rv h
  obtain ⟨σ, Wx, W, st, xs, R, rs, p0⟩ := h
  match xs, rs, p0 with
  | [x], rs, p0 =>
    obtain ⟨v, rfl, r1⟩ := one_of rs
    obtain ⟨d, e1, p⟩ := post_vw p0
    cases d with
    | list xs =>
      obtain ⟨l, vs, rfl, h1, hz, q⟩ := vw_list R r1 e1
      exact call_tuple_ofF pins s σ' H _ us Q I rv ⟨l, vs, rfl, .inl ⟨.inl h1, fun p' o n hp => fin_new p R hp fun Hs m e => pl_tup q hz m n e⟩⟩
    | tuple xs =>
      have t1 := vw_td e1
      subst t1
      obtain ⟨l, o, vs, rfl, h1, hn, hz, q⟩ := vw_tup R r1 e1
      exact call_tuple_ofF pins s σ' H _ us Q I rv ⟨l, vs, rfl, .inr ⟨.inl (.inr ⟨_, h1⟩), fin_d p R r1⟩⟩
    | _ => exact p.elim
  | [], _, p0 => exact p0.elim
  | _ :: _ :: _, _, p0 => exact p0.elim
theorem cr_list {ob : Bool} : CallR X (.type "list") (rN Γ X (biV .list ob)) := by
  intro pins s σ' H vs us Q I rv h
  obtain ⟨σ, Wx, W, st, xs, R, rs, p0⟩ := h
  match xs, rs, p0 with
  | [x], rs, p0 =>
    obtain ⟨v, rfl, r1⟩ := one_of rs
    obtain ⟨d, e1, p⟩ := post_vw p0
    cases d with
    | list xs =>
      obtain ⟨l, vs, rfl, h1, hz, q⟩ := vw_list R r1 e1
      exact call_list_of pins s σ' H _ us Q I rv ⟨l, vs, rfl, .inl (.inl h1), fun p' hp => fin_mkL p R hp q hz⟩
    | tuple xs =>
      obtain ⟨l, o, vs, rfl, h1, hn, hz, q⟩ := vw_tup R r1 e1
      exact call_list_of pins s σ' H _ us Q I rv ⟨l, vs, rfl, .inr (.inl (.inr ⟨_, h1⟩)), fun p' hp => fin_mkL p R hp q hz⟩
    | _ => exact p.elim
  | [], _, p0 => exact p0.elim
  | _ :: _ :: _, _, p0 => exact p0.elim
theorem call_divmodF : CallR X (.builtin "divmod") (fun xs H Q => ∃ i j, xs = [.int i, .int j] ∧ CDiv i j ∧ ∀ p o, o.dict = none → H p = none → Q (.ref p) (upd H p (.frz o (.tup [.int (i / j), .int (i % j)])))) := by
  intro pins s σ H xs us Q I r h
  obtain ⟨i, j, rfl, ⟨h1, h2⟩, q⟩ := h
  obtain ⟨u, w', rfl, ⟨t, rfl⟩, ⟨t', rfl⟩⟩ := vals2 r
  refine divmod_int (by omega) ?_ (.inl (PyProof.noPylong_small (by omega)))
  rw [Int.fdiv_eq_ediv_of_nonneg i (by omega), Int.fmod_eq_emod_of_nonneg i (by omega)]
  exact ⟨.ref s.heap.objs.size, _, newT I (xs := [.int (i / j), .int (i % j)]) (its := [.int (i / j) s.toks, .int (i % j) (s.toks + 1)]) (.cons ⟨_, rfl⟩ (.cons ⟨_, rfl⟩ .nil)) (by show 2 ≤ sizeLine; rw [sizeLine_eq]; decide), rfl, q _ _ rfl I.fresh⟩
theorem cr_divmod {ob : Bool} : CallR X (.builtin "divmod") (rN Γ X (biV .divmod ob)) := by
  intro pins s σ' H vs us Q I rv h
  obtain ⟨σ, Wx, W, st, xs, R, rs, p0⟩ := h
  match xs, rs, p0 with
  | [x, y], rs, p0 =>
    obtain ⟨v, u, rfl, r1, r2⟩ := two_of rs
    obtain ⟨i, rfl, p1⟩ := post_int p0
    obtain ⟨j, rfl, p⟩ := post_int p1
    split at p
    · rename_i hc
      simp only [Bool.and_eq_true, decide_eq_true_eq] at hc
      exact call_divmodF pins s σ' H _ us Q I rv ⟨i, j, by rw [rv_int r1, rv_int r2], hc, fun p' o n hp => fin_new p R hp fun Hs m e => pl_tup (.cons (.int _) (.cons (.int _) .nil)) (by show 2 ≤ sizeLine; rw [sizeLine_eq]; decide) m n e⟩
    · exact p.elim
  | [], _, p0 => exact p0.elim
  | [_], _, p0 => exact p0.elim
  | _ :: _ :: _ :: _, _, p0 => exact p0.elim
end
end Fx

set_option Elab.async false
set_option linter.all false
set_option maxRecDepth 100000
set_option maxHeartbeats 4000000
/-! Fx10: sorted, isinstance, methods of lists, by values. -/
namespace Fx
open PySem PySem.Spec PyProof.Rows L2 NdefX LamX
section
variable {Γ : Gc} {X : Cx} {K : Pw} {H : Hp} {k : Nat}
def SR (K : Pw) (H : Hp) (u : Value) (d : PyData) : Prop := ∃ x, RelV x u ∧ Pl K H x d
theorem each_of : ∀ {vs : List V} {us : List Value} {ds : List PyData}, PlA K H vs ds → Vals vs us → PySem.W.EachIs (SR K H) us ds
  | _, _, _, .nil, .nil => .nil
  | _, _, _, .cons a b, .cons c d => .cons ⟨_, c, a⟩ (each_of b d)
theorem of_each : ∀ {us : List Value} {ds : List PyData}, PySem.W.EachIs (SR K H) us ds → ∃ vs, Vals vs us ∧ PlA K H vs ds
  | _, _, .nil => ⟨[], .nil, .nil⟩
  | _, _, .cons ⟨x, a, b⟩ t => by
    obtain ⟨vs, h1, h2⟩ := of_each t
    exact ⟨x :: vs, .cons a h1, .cons b h2⟩
theorem sort_alike {xs : List PyData} (h : sortOk xs = true) : PySem.W.AllAlike (xs.map id) := by
  unfold sortOk at h
  simp only [Bool.and_eq_true, List.all_eq_true] at h
  rw [List.map_id]
  exact fun a ha b hb => h.1 a ha b hb
theorem sort_able {xs : List PyData} (h : sortOk xs = true) : PySem.W.Sortable (xs.map id) := by
  unfold sortOk at h
  simp only [Bool.and_eq_true, Bool.or_eq_true, List.all_eq_true] at h
  rw [List.map_id]
  rcases h.2 with h | h
  · refine .inl fun d hd => ?_
    have := h d hd
    split at this
    · exact ⟨_, _, rfl⟩
    · cases this
  · refine .inr fun d hd => ?_
    have := h d hd
    split at this
    · cases this
    · cases this
    · rename_i h1 h2
      exact ⟨h1, fun xs e => h2 xs e⟩
theorem srt_gather {prog : Program} {w : World} {A : Around} {E : Value → Shared → Prop} {s : Shared} {t : Addr} {us : List Value} {Q : List Value → Shared → Prop} (ht : PyProof.Rows.IsTup s.heap t us.toArray)
    (hq : Q us { s with heap := (s.heap.push (seqObj "list" #[] 0)).update s.heap.objs.size (Obj.mapSeq (· ++ us.toArray)) }) (hz : us.length ≤ sizeLine) : wpAny (model prog w) A (collect (.ref t)) Q E s := by
  obtain ⟨ob, h1, h2, e, h3⟩ := id ht
  have h4 : (s.heap.push (seqObj "list" #[] 0)).get? t = some ob := Heap.get?_push_of_some _ h1
  have self : (s.heap.push (seqObj "list" #[] 0)).get? s.heap.objs.size = some (seqObj "list" #[] 0) := Heap.get?_push_size _ rfl
  unfold collect
  refine wpAny_bind (wpAny_runValue (codeAny_builtin entry_proto_collect' ?_))
  show wpAny _ _ (do again (.builtin "list.__iadd__" ⟨[← newList [], .ref t], []⟩)) _ _ s
  refine wpAny_bind (wpAny_newList (wpAny_pure ⟨Code.quiet_builtin _ (by decide +kernel), codeAny_builtin entry_list_iadd' ?_⟩))
  show wpAny _ _ (Builtin.List.listExtendWith (.ref s.heap.objs.size) (.ref t) (.ref s.heap.objs.size)) _ _ { s with heap := s.heap.push (seqObj "list" #[] 0) }
  unfold Builtin.List.listExtendWith
  refine wpAny_bind (wpAny_typeOf (T := "tuple") ⟨ob, h4, h2⟩ ?_)
  rw [if_pos (by rw [show (Value.type "tuple" == Value.type "tuple") = true from rfl]; simp)]
  refine wpAny_bind (listItems_at h4 h3 ?_)
  refine wpAny_bind (listItems_at self rfl ?_)
  rw [if_neg (by simp)]
  refine wpAny_bind (listUpdate_at self rfl ?_ (Nat.zero_le _) (by show (#[] ++ us.toArray).size ≤ sizeLine + 1; simp only [Array.size_append, List.size_toArray, List.length_nil]; omega))
  refine wpAny_pure ?_
  show wpAny (model prog w) A (do
      let o ← load s.heap.objs.size
      match o.data with
      | .seq xs _ => pure xs.toList
      | _ => unsupported "internal:collect") Q E { s with heap := (s.heap.push (seqObj "list" #[] 0)).update s.heap.objs.size (Obj.mapSeq (· ++ us.toArray)) }
  refine wpAny_bind (wpAny_load (get?_update_seq self _) ?_)
  show wpAny _ _ (pure ((#[] : Array Value) ++ us.toArray).toList) Q E _
  rw [show ((#[] : Array Value) ++ us.toArray).toList = us by simp]
  exact wpAny_pure hq
theorem srt_data {prog : Program} {w : World} {A : Around} {E : Value → Shared → Prop} {s : Shared} {β : Type} {us : List Value} {bs : List β} {enc : β → PyData} {R : Value → β → Prop} {t : Addr} {Q : Value → Shared → Prop}
    (ht : PyProof.Rows.IsTup s.heap t us.toArray) (e : PySem.W.EachIs R us bs) (er : PySem.W.EachIs (fun v b => ∃ as, Reads s.heap v (enc b) as) us bs) (al : PySem.W.AllAlike (bs.map enc)) (ab : PySem.W.Sortable (bs.map enc)) (hz : bs.length ≤ sizeLine)
    (hu : ∀ b, b ∈ bs → A.units + 2 + (enc b).depth < cLine) (h : ∀ out : List Value, out.length = bs.length → PySem.W.EachIs R out (bs.mergeSort (PySem.W.dataLe false enc)) → Q (.ref (s.heap.objs.size + 1)) { s with heap := PyProof.Rows.sortedAll s.heap us out.toArray }) :
    wpAny (model prog w) A (call (.builtin "sorted") [.ref t]) Q E s := by
  have hz2 : us.length ≤ sizeLine := by rw [e.length]; exact hz
  have er2 : PySem.W.EachIs (fun v b => ∃ as, Reads (PySem.W.sortingHeap (PySem.W.copyHeap s.heap us) (s.heap.objs.size + 1) us) v (enc b) as) us bs := er.mono fun _ _ ⟨as, r⟩ => ⟨as, PyProof.Rows.Reads.keeps (fun _ _ => PySem.W.sorting_copy_old) r⟩
  refine call_function_entry_kw kind_sorted plain_sorted entry_sorted (args_sorted1 _) ?_
  unfold Builtin.«sorted»
  refine wpAny_bind (m := checkCount "sorted" 1 1 _) (wpAny_pure ?_)
  refine wpAny_bind (srt_gather ht ?_ hz2)
  refine wpAny_bind (wpAny_newList ?_ hz2)
  have sz : ((s.heap.push (seqObj "list" #[] 0)).update s.heap.objs.size (Obj.mapSeq (· ++ us.toArray))).objs.size = s.heap.objs.size + 1 := by rw [Heap.size_update, size_push']
  show wpAny _ _ _ _ _ { s with heap := PySem.W.copyHeap s.heap us }
  rw [sz]
  refine wpAny_bind (wpAny_holding (wpAny_call_entry_kw slot_list_sort ⟨_, PySem.W.copyHeap_at s.heap us, rfl⟩ entry_list_sort ?body (args_list_sort _)))
  case body =>
    show wpAny (model prog w) A.in1.in1 (Builtin.«list.sort» ⟨[.ref (s.heap.objs.size + 1)], []⟩) _ _ _
    refine PySem.W.list_sort_vals (s := { s with heap := PySem.W.copyHeap s.heap us }) (PySem.W.copyHeap_at s.heap us) (PySem.W.SortsAt.data (s := { s with heap := PySem.W.sortingHeap (PySem.W.copyHeap s.heap us) (s.heap.objs.size + 1) us }) (PySem.W.each_map (R := fun v d => ∃ as, Reads (PySem.W.sortingHeap (PySem.W.copyHeap s.heap us) (s.heap.objs.size + 1) us) v d as) enc er2) al ab (PySem.W.bound_map hu)) hz2 ?_
    exact ⟨_, rfl, wpAny_pure ⟨_, rfl, h _ (by rw [PySem.W.sortVals_length false rfl]; exact e.length) (PySem.W.sortVals_data false e er2 al)⟩⟩
theorem cr_sortedF (hr : Room k X.A) {ob : Bool} : CallR X (.builtin "sorted") (rN Γ X (biV .sorted ob)) := by
  intro pins s σ' H vs us Q I rv h
  obtain ⟨σ, Wx, W, st, xs, R, rs, p0⟩ := h
  match xs, rs, p0 with
  | [x], rs, p0 =>
    obtain ⟨v, rfl, r1⟩ := one_of rs
    obtain ⟨d, e1, p⟩ := post_vw p0
    have fin : ∀ (l : Addr) (vs : List V) (xs : List PyData), v = .ref l → vs.length ≤ sizeLine → PlA (kp X) W.Hs vs xs →
        Post Γ X (RVs Γ X σ) σ Wx W H st ((if (sortOk xs && xs.all fun y => decide (y.depth ≤ 60)) = true then mkL ob (sortD xs) else M.bad) st) Q →
        (∃ its, Vals vs its ∧ (s.heap.IsList l its.toArray ∨ PyProof.Rows.IsTup s.heap l its.toArray)) →
        wpAny (model X.prog X.w) X.A (call (.builtin "sorted") us) (EP X pins σ' Q) X.xe s := by
      rintro l vs xs rfl hz q p ⟨its, rr, hl⟩
      split at p
      · rename_i hc
        simp only [Bool.and_eq_true, List.all_eq_true, decide_eq_true_eq] at hc
        obtain ⟨u, rfl, ru⟩ := vals1 rv
        cases ru
        have eR := each_of q rr
        have hlen := rr.length
        have hun : ∀ b ∈ xs, X.A.units + 2 + b.depth < cLine := fun b hb => by
          have := hc.2 b hb
          have := room_le hr (n := 2 + 60) (by omega)
          omega
        have last : ∀ out : List Value, out.length = xs.length → PySem.W.EachIs (SR (kp X) W.Hs) out (xs.mergeSort (PySem.W.dataLe false id)) → EP X pins σ' Q (.ref (s.heap.objs.size + 1)) { s with heap := PyProof.Rows.sortedAll s.heap its out.toArray } := fun out ho eo => by
          obtain ⟨vs', h2, h3⟩ := of_each eo
          obtain ⟨ep, he'⟩ := PyProof.Rows.sortedAll_at s.heap its out.toArray
          have hz' : vs'.length ≤ sizeLine := by rw [h2.length, ho, ← q.length]; exact hz
          have I2 : Inv X pins σ' (upd H (s.heap.objs.size + 1) (.lst vs')) { s with heap := PyProof.Rows.sortedAll s.heap its out.toArray } :=
            I.laid (t' := s.toks) (fun _ _ => PyProof.Rows.sortedAll_old) (Nat.le_succ _) ⟨hz', out, ep, h2, he'⟩
          exact ⟨.ref _, _, I2, rfl, fin_mkL p R (I.hok.fresh (Nat.le_succ _)) h3 hz'⟩
        have reads := eR.mono fun u d ⟨x, a, b⟩ => pl_reads I (Pl.sub R.sub _ _ b) a
        rcases hl with hl | hl
        · exact PySem.W.sorted_data (R := SR (kp X) W.Hs) (enc := id) hl eR reads (sort_alike hc.1) (sort_able hc.1) (by rw [← q.length]; exact hz) hun last
        · exact srt_data (R := SR (kp X) W.Hs) (enc := id) hl eR reads (sort_alike hc.1) (sort_able hc.1) (by rw [← q.length]; exact hz) hun last
      · exact p.elim
    cases d with
    | list xs =>
      obtain ⟨l, vs, rfl, h1, hz, q⟩ := vw_list R r1 e1
      obtain ⟨its, rr, hl, _⟩ := I.list (.inl h1)
      exact fin l vs xs rfl hz q p ⟨its, rr, .inl hl.isList⟩
    | tuple xs =>
      obtain ⟨l, o, vs, rfl, h1, hn, hz, q⟩ := vw_tup R r1 e1
      obtain ⟨its, rr, hl, _⟩ := I.tuple (.inl (.inr ⟨_, h1⟩))
      exact fin l vs xs rfl hz q p ⟨its, rr, .inr hl⟩
    | _ => exact p.elim
  | [], _, p0 => exact p0.elim
  | _ :: _ :: _, _, p0 => exact p0.elim
end
end Fx

set_option Elab.async false
set_option linter.all false
set_option maxRecDepth 100000
set_option maxHeartbeats 4000000
/-! Fx11: expressions: names, operators, comparisons, and, or, not; lists of arguments; displays; items. -/
namespace Fx
open PySem PySem.Spec PyProof.Rows L2 NdefX LamX
section
variable {Γ : Gc} {X : Cx} {k : Nat} {a b c e : Expr} {es : List Expr} {pos p p2 : Pos} {Fa Fb Fc : Env → M Val} {Fs : Env → M (List Val)} {i j : Nat} {x : Str} {l : Pos}
theorem run_pure {α β : Type} {R : Rl α β} {σ : L2.St} {Wx : WX} {W : Wd} {H : Hp} {st : Sto} {v : α} {Q : β → Hp → Prop} (p : Post Γ X R σ Wx W H st (M.pure v st) Q) (Rl : Rel Γ.T (kp X) W H st) {u : β} (r : R W H st.length u v) : Q u H := p u W H Ext.refl Rl r
/-! ### names, constants -/
theorem de_cst {pe : PyData} {v : V} (h : PE X e (tC v)) (hv : ∀ H, Pl (kp X) H v pe) : DE Γ X e (fun _ => M.pure (.d pe)) := fun Wx _ => h.imp fun σ H Q ⟨W, ε, st, rel, env, post⟩ => run_pure post rel (.pl (hv _))
theorem de_none : DE Γ X (.Constant .none j pos) (fun _ => M.pure (.d .none)) := de_cst pe_non fun _ => .non
theorem de_bool {z : Bool} : DE Γ X (.Constant (.bool z) j pos) (fun _ => M.pure (.d (.bool z))) := de_cst pe_bl fun _ => .bl _
theorem de_int {z : Int} : DE Γ X (.Constant (.int z) j pos) (fun _ => M.pure (.d (.int z))) := de_cst pe_int fun _ => .int _
theorem de_str {z : Str} (h : PyData.strOk z = true) (h2 : z.length ≤ sizeLine) : DE Γ X (.Constant (.str z) j pos) (fun _ => M.pure (.d (.str z))) := de_cst pe_str fun _ => .str _ h h2
theorem de_glob {d : PyData} (hX : GX Γ X) (hg : Gl X x) (h : Γ.p.gl x = some d) (hd : (x == ("__debug__" : Str)) = false) : DE Γ X (.Name x pos) (fun _ => M.pure (.d d)) := by
  obtain ⟨u, v, h1, h2, h3⟩ := hX.glo x d h
  exact de_cst (pe_glob hg h1 h2 hd) h3
theorem caps_pl {ε : Env} : ∀ {js : List Nat} {ws : List PyData}, capD ε js = some ws → Paired (fun (j : Nat) (w : PyData) => rdV ε j = some w) js ws
  | [], _, h => by cases h; exact .nil
  | j :: js, ws, h => by
    unfold capD at h
    cases e1 : rdV ε j with
    | none => rw [e1] at h; cases h
    | some x =>
      cases e2 : capD ε js with
      | none => rw [e1, e2] at h; cases h
      | some xs => rw [e1, e2] at h; cases h; exact .cons e1 (caps_pl e2)
theorem rdV_at {W : Wd} {H : Hp} {n : Nat} {σ : L2.St} {ε : Env} (env : EnvR Γ X W H n σ ε) {i : Nat} {d : PyData} (h : rdV ε i = some d) : ∃ v, σ[i]? = some (some v) ∧ Rp (kp X) W.Hs v d := by
  unfold rdV at h
  split at h
  · rename_i y e
    cases h
    exact env.at_ i _ e
  · cases h
theorem de_fn (hX : GX Γ X) {f : Str} {A : Addr} (hg : Gl X f) (h : Γ.ad f = some A) (hd : (f == ("__debug__" : Str)) = false) : DE Γ X (.Name f pos) (fun _ => M.pure (.g f)) := fun Wx _ =>
  (pe_glob hg (hX.fn f A h).1 (v := .ref A) rfl hd).imp fun σ H Q ⟨W, ε, st, rel, env, post⟩ => run_pure post rel ⟨A, h, rfl⟩
/-! ### operators -/
theorem de_neg (ha : DE Γ X a Fa) : DE Γ X (.UnaryOp .USub a pos) (fun ε => M.bind (Fa ε) fun v => (match v with
    | .d (.int i) => int (-i)
    | _ => M.bad)) := fun Wx tk =>
  (pe_un un_neg (ha Wx tk)).imp fun σ H Q ⟨W, ε, st, rel, env, post⟩ => tG_of rel env post fun v x W1 H1 st1 e1 x1 rel1 env1 r1 p1 => by
    cases x with
    | d z =>
      cases z with
      | int i => exact ⟨i, rv_int r1, fin_d p1 rel1 (.pl (.int _))⟩
      | _ => exact p1.elim
    | _ => exact p1.elim
theorem de_not (ha : DE Γ X a Fa) : DE Γ X (.UnaryOp .Not a pos) (fun ε => M.bind (Fa ε) fun v => M.bind (bln v) fun b => bool (!b)) := fun Wx tk =>
  (pe_not (ha Wx tk)).imp fun σ H Q ⟨W, ε, st, rel, env, post⟩ => tG_of rel env post fun v x W1 H1 st1 e1 x1 rel1 env1 r1 p1 => by
    obtain ⟨b, rfl, p2⟩ := post_bln p1
    exact ⟨b, rv_bool r1, fin_d p2 rel1 (.pl (.bl _))⟩
/-- two values, one after another -/
theorem two_vals {r : R2} {F : Val → Val → M Val} (h : ∀ v u H Q, rB Γ X F v u H Q → r v u H Q) (Wx : WX) (σ : L2.St) (H : Hp) (Q : VK) (q : tE Γ X (fun ε => M.bind (Fa ε) fun v => M.bind (Fb ε) fun w => F v w) Wx σ H Q) :
    tOp r (tE Γ X Fa Wx) (tE Γ X Fb Wx) σ H Q := by
  obtain ⟨W, ε, st, rel, env, post⟩ := q
  exact tG_of rel env post fun v x W1 H1 st1 e1 x1 rel1 env1 r1 p1 => tG_of rel1 env1 p1 fun u y W2 H2 st2 e2 x2 rel2 env2 r2 p2 =>
    h v u H2 Q ⟨σ, Wx, W2, st2, x, y, rel2, r1.ext rel1 x2, r2, p2⟩
theorem de_bin {op : Operator} (ha : DE Γ X a Fa) (hb : DE Γ X b Fb) : DE Γ X (.BinOp a op b pos) (fun ε => M.bind (Fa ε) fun v => M.bind (Fb ε) fun w => M.bind (vw v) fun x => M.bind (vw w) fun y => binD op x y) := fun Wx tk =>
  (pe_op (op_bin op) (ha Wx tk) (hb Wx tk)).imp (two_vals (fun _ _ _ _ h => h) Wx)
def catF (v w : Val) : M Val := M.bind (vw v) fun x => M.bind (vw w) fun y => (match x, y with
    | .list xs, .list ys => if xs.length + ys.length ≤ sizeLine then alloc (.lst (xs ++ ys)) else M.bad
    | _, _ => M.bad)
def mulF (v w : Val) : M Val := M.bind (vw v) fun x => M.bind (vw w) fun y => (match x, y with
    | .list xs, .int k => if decide (0 ≤ k) && decide (k ≤ 1000) && decide (xs.length ≤ 1000) then alloc (.lst (List.replicate k.toNat xs).flatten) else M.bad
    | _, _ => M.bad)
theorem op_catO : OpR X (binaryOp .Add) (rB Γ X catF) := by
  intro pins s σ' H v u a b Q I rv ru h
  obtain ⟨σ, Wx, W, st, x, y, R, r1, r2, p0⟩ := h
  obtain ⟨d, e1, p1⟩ := post_vw p0
  obtain ⟨e, e2, p⟩ := post_vw p1
  split at p
  · obtain ⟨a1, vs, q1, s1, z1, l1⟩ := vw_list R r1 e1
    obtain ⟨a2, ws, q2, s2, z2, l2⟩ := vw_list R r2 e2
    split at p
    · rename_i hl
      have hl' : vs.length + ws.length ≤ sizeLine := by rw [l1.length, l2.length]; exact hl
      exact op_catR pins s σ' H v u a b Q I rv ru ⟨_, _, _, _, q1, q2, s1, s2, hl', fun p' hp => fin_cell p R hp ⟨_, rfl, by rw [List.length_append]; exact hl', l1.append l2⟩ (fun z => by cases z)⟩
    · exact p.elim
  · exact p.elim
theorem op_mulO : OpR X (binaryOp .Mult) (rB Γ X mulF) := by
  intro pins s σ' H v u a b Q I rv ru h
  obtain ⟨σ, Wx, W, st, x, y, R, r1, r2, p0⟩ := h
  obtain ⟨d, e1, p1⟩ := post_vw p0
  obtain ⟨e, e2, p⟩ := post_vw p1
  split at p
  · rename_i xs k
    obtain ⟨a1, vs, q1, s1, z1, l1⟩ := vw_list R r1 e1
    have q2 := vw_int r2 e2
    split at p
    · rename_i hc
      simp only [Bool.and_eq_true, decide_eq_true_eq] at hc
      have hz : vs.length * k.toNat ≤ sizeLine := by
        rw [l1.length]
        have : k.toNat ≤ 1000 := by omega
        exact Nat.le_trans (Nat.mul_le_mul hc.2 this) line_ge
      exact op_repR pins s σ' H v u a b Q I rv ru ⟨_, _, _, q1, q2, s1, by omega, by omega, hz, fun p' hp => fin_cell p R hp ⟨_, rfl, by rw [length_rep, Nat.mul_comm]; exact hz, l1.rep _⟩ (fun z => by cases z)⟩
    · exact p.elim
  · exact p.elim
theorem de_catO (ha : DE Γ X a Fa) (hb : DE Γ X b Fb) : DE Γ X (.BinOp a .Add b pos) (fun ε => M.bind (Fa ε) fun v => M.bind (Fb ε) fun w => catF v w) := fun Wx tk =>
  (pe_op op_catO (ha Wx tk) (hb Wx tk)).imp (two_vals (fun _ _ _ _ h => h) Wx)
theorem de_mulO (ha : DE Γ X a Fa) (hb : DE Γ X b Fb) : DE Γ X (.BinOp a .Mult b pos) (fun ε => M.bind (Fa ε) fun v => M.bind (Fb ε) fun w => mulF v w) := fun Wx tk =>
  (pe_op op_mulO (ha Wx tk) (hb Wx tk)).imp (two_vals (fun _ _ _ _ h => h) Wx)
/-! ### comparisons -/
theorem de_cmp (hr : Room k X.A) {op : CmpOp} (ha : DE Γ X a Fa) (hb : DE Γ X b Fb) (hm : behindInMarks op b = false) : DE Γ X (.Compare a [op] [b] pos) (fun ε => M.bind (Fa ε) fun v => M.bind (Fb ε) fun w => M.bind (inCmp op v w) fun c => bool c) := fun Wx tk =>
  (pe_cmpR (op_cmp hr op) (ha Wx tk) (hb Wx tk) hm).imp (two_vals (fun _ _ _ _ h => h) Wx)
/-- what a test of a value asks -/
def tst (F : Env → M Val) : Env → M Bool := fun ε => M.bind (F ε) fun v => bln v
theorem bool_bln {α β : Type} {R : Rl α β} {σ : L2.St} {Wx : WX} {W : Wd} {H : Hp} {st : Sto} {Q : β → Hp → Prop} {m : M Bool} {g : Bool → M α} (p : Post Γ X R σ Wx W H st (M.bind (M.bind (M.bind m fun c => bool c) fun v => bln v) g st) Q) :
    Post Γ X R σ Wx W H st (M.bind m g st) Q := by
  have : (M.bind (M.bind m fun c => bool c) fun v => bln v) = m := by
    rw [M.bind_assoc]
    exact M.pure_bind m
  rwa [this] at p
theorem dt_cmp (hr : Room k X.A) {op : CmpOp} (ha : DE Γ X a Fa) (hb : DE Γ X b Fb) (hm : behindInMarks op b = false) : DT Γ X (.Compare a [op] [b] pos) (tst fun ε => M.bind (Fa ε) fun v => M.bind (Fb ε) fun w => M.bind (inCmp op v w) fun c => bool c) := fun Wx tk =>
  (pt_cmpR (op_cmp hr op) (ha Wx tk) (hb Wx tk) hm).imp fun σ H Q ⟨W, ε, st, rel, env, post⟩ => by
    unfold tst at post
    rw [M.bind_assoc] at post
    refine tG_of rel env post fun v x W1 H1 st1 e1 x1 rel1 env1 r1 p1 => ?_
    rw [M.bind_assoc] at p1
    refine tG_of rel1 env1 p1 fun u y W2 H2 st2 e2 x2 rel2 env2 r2 p2 => ?_
    refine ⟨σ, Wx, W2, st2, x, y, rel2, r1.ext rel1 x2, r2, ?_⟩
    unfold cb
    unfold M.bind at p2 ⊢
    cases e3 : inCmp op x y st2 with
    | ok q st3 =>
      rw [e3] at p2
      exact fun z W3 H3 x3 rel3 r3 => ⟨q, rv_bool r3, p2 q W3 H3 x3 rel3 rfl⟩
    | err ex st3 => rw [e3] at p2; exact p2
    | bad => rw [e3] at p2; exact p2
end
end Fx

set_option Elab.async false
set_option linter.all false
set_option maxRecDepth 100000
set_option maxHeartbeats 4000000
/-! Fx12: and, or, if else, tests; arguments; displays; items, slices; calls of what is built in. -/
namespace Fx
open PySem PySem.Spec PyProof.Rows L2 NdefX LamX
def andF (Fa Fb : Env → M Val) : Env → M Val := fun ε => M.bind (Fa ε) fun v => M.bind (bln v) fun k => if k then Fb ε else bool false
def orF (Fa Fb : Env → M Val) : Env → M Val := fun ε => M.bind (Fa ε) fun v => M.bind (bln v) fun k => if k then bool true else Fb ε
def ifF (Fc Fa Fb : Env → M Val) : Env → M Val := fun ε => M.bind (Fc ε) fun v => M.bind (bln v) fun k => if k then Fa ε else Fb ε
def notF (Fa : Env → M Val) : Env → M Val := fun ε => M.bind (Fa ε) fun v => M.bind (bln v) fun b => bool (!b)
section
variable {Fa Fb Fc : Env → M Val}
theorem tst_and : tst (andF Fa Fb) = fun ε => M.bind (tst Fa ε) fun k => if k then tst Fb ε else M.pure false := by
  funext ε
  unfold tst andF
  rw [M.bind_assoc, M.bind_assoc]
  congr 1
  funext v
  rw [M.bind_assoc]
  congr 1
  funext k
  cases k <;> rfl
theorem tst_or : tst (orF Fa Fb) = fun ε => M.bind (tst Fa ε) fun k => if k then M.pure true else tst Fb ε := by
  funext ε
  unfold tst orF
  rw [M.bind_assoc, M.bind_assoc]
  congr 1
  funext v
  rw [M.bind_assoc]
  congr 1
  funext k
  cases k <;> rfl
theorem tst_if : tst (ifF Fc Fa Fb) = fun ε => M.bind (tst Fc ε) fun k => if k then tst Fa ε else tst Fb ε := by
  funext ε
  unfold tst ifF
  rw [M.bind_assoc, M.bind_assoc]
  congr 1
  funext v
  rw [M.bind_assoc]
  congr 1
  funext k
  cases k <;> rfl
theorem tst_not : tst (notF Fa) = fun ε => M.bind (tst Fa ε) fun k => M.pure (!k) := by
  funext ε
  unfold tst notF
  rw [M.bind_assoc, M.bind_assoc]
  congr 1
  funext v
  rw [M.bind_assoc]
  rfl
end
def DW (Γ : Gc) (X : Cx) (e : Expr) (F : Env → M Bool) : Prop := ∀ Wx, Takes X Wx → PW X e (tTs Γ X F Wx)
theorem _root_.L2.PW.imp {X : Cx} {e : Expr} {t t' : TT} (h : PW X e t) (k : ∀ σ H Q, t' σ H Q → t σ H Q) : PW X e t' := ⟨fun wh pins s σ H Q I q => h.run wh pins s σ H Q I (k σ H Q q)⟩
section
variable {Γ : Gc} {X : Cx} {k : Nat} {a b c e : Expr} {es rest : List Expr} {pos p p2 : Pos} {Fa Fb Fc : Env → M Val} {Fs : Env → M (List Val)} {i j : Nat} {x : Str} {l : Pos}
theorem DW.dt {F : Env → M Bool} (h : DW Γ X e F) : DT Γ X e F := fun Wx tk => (h Wx tk).pt
theorem de_and (ha : DE Γ X a Fa) (hb : DE Γ X (.BoolOp .And (b :: rest) pos) Fb) : DE Γ X (.BoolOp .And (a :: b :: rest) pos) (andF Fa Fb) := fun Wx tk =>
  (pe_and (ha Wx tk) (hb Wx tk)).imp fun σ H Q ⟨W, ε, st, rel, env, post⟩ => tG_of rel env post fun v x W1 H1 st1 e1 x1 rel1 env1 r1 p1 => by
    obtain ⟨b, rfl, p2⟩ := post_bln p1
    refine ⟨b, rv_bool r1, ?_⟩
    cases b with
    | true => exact ⟨W1, ε, st1, rel1, env1, p2⟩
    | false => exact fin_d p2 rel1 (.pl (.bl _))
theorem de_or (ha : DE Γ X a Fa) (hb : DE Γ X (.BoolOp .Or (b :: rest) pos) Fb) : DE Γ X (.BoolOp .Or (a :: b :: rest) pos) (orF Fa Fb) := fun Wx tk =>
  (pe_or (ha Wx tk) (hb Wx tk)).imp fun σ H Q ⟨W, ε, st, rel, env, post⟩ => tG_of rel env post fun v x W1 H1 st1 e1 x1 rel1 env1 r1 p1 => by
    obtain ⟨b, rfl, p2⟩ := post_bln p1
    refine ⟨b, rv_bool r1, ?_⟩
    cases b with
    | false => exact ⟨W1, ε, st1, rel1, env1, p2⟩
    | true => exact fin_d p2 rel1 (.pl (.bl _))
theorem de_one {op : BoolOp} (ha : DE Γ X a Fa) : DE Γ X (.BoolOp op [a] pos) Fa := fun Wx tk => pe_one (ha Wx tk)
theorem de_if (hc : DT Γ X c (tst Fc)) (ha : DE Γ X a Fa) (hb : DE Γ X b Fb) : DE Γ X (.IfExp c a b pos) (ifF Fc Fa Fb) := fun Wx tk =>
  (pe_ifExp (hc Wx tk) (ha Wx tk) (hb Wx tk)).imp fun σ H Q ⟨W, ε, st, rel, env, post⟩ => by
    have e : ifF Fc Fa Fb ε = M.bind (tst Fc ε) fun k => if k then Fa ε else Fb ε := by
      unfold ifF tst
      rw [M.bind_assoc]
    rw [e] at post
    refine tG_of rel env post fun k k' W1 H1 st1 e1 x1 rel1 env1 r1 p1 => ?_
    cases r1
    cases k with
    | true => exact ⟨W1, ε, st1, rel1, env1, p1⟩
    | false => exact ⟨W1, ε, st1, rel1, env1, p1⟩
/-! ### tests -/
theorem dt_val (ha : DE Γ X a Fa) (he : ∀ whole, isTrue a X.env whole = (do let v ← whole; standAt a.pos; holding [v] (truthy v))) : DT Γ X a (tst Fa) := fun Wx tk =>
  (pt_val (ha Wx tk) he).imp fun σ H Q ⟨W, ε, st, rel, env, post⟩ => by
    have post : Post Γ X REq σ Wx W H st (M.bind (Fa ε) (fun v => bln v) st) Q := post
    refine tG_of rel env post fun v x W1 H1 st1 e1 x1 rel1 env1 r1 p1 => ?_
    have p1 : Post Γ X REq σ Wx W1 H1 st1 (M.bind (bln x) M.pure st1) Q := by rw [M.pure_bind]; exact p1
    obtain ⟨b, rfl, p2⟩ := post_bln p1
    exact ⟨b, rv_bool r1, run_pure p2 rel1 rfl⟩
theorem dw_and1 (ha : DT Γ X a (tst Fa)) : DW Γ X (.BoolOp .And [a] pos) (tst Fa) := fun Wx tk => pw_and1 (ha Wx tk)
theorem dw_or1 (ha : DT Γ X a (tst Fa)) : DW Γ X (.BoolOp .Or [a] pos) (tst Fa) := fun Wx tk => pw_or1 (ha Wx tk)
theorem dw_and (ha : DT Γ X a (tst Fa)) (hb : DW Γ X (.BoolOp .And (b :: rest) pos) (tst Fb)) : DW Γ X (.BoolOp .And (a :: b :: rest) pos) (tst (andF Fa Fb)) := fun Wx tk =>
  (pw_and (ha Wx tk) (hb Wx tk)).imp fun σ H Q ⟨W, ε, st, rel, env, post⟩ => by
    rw [tst_and] at post
    refine tG_of rel env post fun k k' W1 H1 st1 e1 x1 rel1 env1 r1 p1 => ?_
    cases r1
    cases k with
    | true => exact ⟨W1, ε, st1, rel1, env1, p1⟩
    | false => exact run_pure p1 rel1 rfl
theorem dw_or (ha : DT Γ X a (tst Fa)) (hb : DW Γ X (.BoolOp .Or (b :: rest) pos) (tst Fb)) : DW Γ X (.BoolOp .Or (a :: b :: rest) pos) (tst (orF Fa Fb)) := fun Wx tk =>
  (pw_or (ha Wx tk) (hb Wx tk)).imp fun σ H Q ⟨W, ε, st, rel, env, post⟩ => by
    rw [tst_or] at post
    refine tG_of rel env post fun k k' W1 H1 st1 e1 x1 rel1 env1 r1 p1 => ?_
    cases r1
    cases k with
    | false => exact ⟨W1, ε, st1, rel1, env1, p1⟩
    | true => exact run_pure p1 rel1 rfl
theorem dt_not (ha : DT Γ X a (tst Fa)) : DT Γ X (.UnaryOp .Not a pos) (tst (notF Fa)) := fun Wx tk =>
  (pt_not (ha Wx tk)).imp fun σ H Q ⟨W, ε, st, rel, env, post⟩ => by
    rw [tst_not] at post
    refine tG_of rel env post fun k k' W1 H1 st1 e1 x1 rel1 env1 r1 p1 => ?_
    cases r1
    exact run_pure p1 rel1 rfl
/-! ### chains -/
def chF (o1 o2 : CmpOp) (Fa Fb Fc : Env → M Val) : Env → M Val := fun ε => M.bind (Fa ε) fun v => M.bind (Fb ε) fun w => M.bind (inCmp o1 v w) fun k => if k then M.bind (Fc ε) fun z => M.bind (inCmp o2 w z) fun c => bool c else bool false
theorem chain_k (hr : Room k X.A) {o1 o2 : CmpOp} {Wx : WX} {σ : L2.St} {H : Hp} {Q : VK} (h : tE Γ X (chF o1 o2 Fa Fb Fc) Wx σ H Q) : tChain (rB Γ X (cb o1)) (rB Γ X (cb o2)) (tE Γ X Fa Wx) (tE Γ X Fb Wx) (tE Γ X Fc Wx) σ H Q := by
  obtain ⟨W, ε, st, rel, env, post⟩ := h
  refine tG_of rel env post fun v x W1 H1 st1 e1 x1 rel1 env1 r1 p1 => ?_
  refine tG_of rel1 env1 p1 fun u y W2 H2 st2 e2 x2 rel2 env2 r2 p2 => ?_
  refine ⟨σ, Wx, W2, st2, x, y, rel2, r1.ext rel1 x2, r2, ?_⟩
  unfold cb
  unfold M.bind at p2 ⊢
  cases e3 : inCmp o1 x y st2 with
  | ok q st3 =>
    rw [e3] at p2
    refine fun z W3 H3 x3 rel3 r3 => ⟨q, rv_bool r3, ?_⟩
    have p3 := p2.rebase x3
    cases q with
    | false => exact fin_d p3 rel3 (.pl (.bl _))
    | true => exact tG_of rel3 (env2.ext rel2 x3) p3 fun u z W4 H4 st4 e4 x4 rel4 env4 r4 p4 => ⟨σ, Wx, W4, st4, y, z, rel4, (r2.ext rel2 x3).ext rel3 x4, r4, p4⟩
  | err ex st3 => rw [e3] at p2; exact p2
  | bad => rw [e3] at p2; exact p2
theorem de_chain (hr : Room k X.A) {o1 o2 : CmpOp} (ha : DE Γ X a Fa) (hb : DE Γ X b Fb) (hc : DE Γ X c Fc) (hm : lastMarks [o1, o2] [b, c] = false) : DE Γ X (.Compare a [o1, o2] [b, c] pos) (chF o1 o2 Fa Fb Fc) := fun Wx tk =>
  (pe_chain (op_cmp hr o1) (op_cmp hr o2) (ha Wx tk) (hb Wx tk) (hc Wx tk) hm).imp fun σ H Q h => chain_k hr h
theorem dt_chain (hr : Room k X.A) {o1 o2 : CmpOp} (ha : DE Γ X a Fa) (hb : DE Γ X b Fb) (hc : DE Γ X c Fc) (hm : lastMarks [o1, o2] [b, c] = false) : DT Γ X (.Compare a [o1, o2] [b, c] pos) (tst (chF o1 o2 Fa Fb Fc)) := fun Wx tk =>
  (pt_chain (op_cmp hr o1) (op_cmp hr o2) (ha Wx tk) (hb Wx tk) (hc Wx tk) hm).imp fun σ H Q ⟨W, ε, st, rel, env, post⟩ => by
    refine chain_k hr ⟨W, ε, st, rel, env, ?_⟩
    have post : Post Γ X REq σ Wx W H st (M.bind (chF o1 o2 Fa Fb Fc ε) (fun v => bln v) st) Q := post
    unfold M.bind at post
    cases e : chF o1 o2 Fa Fb Fc ε st with
    | ok v st1 =>
      rw [e] at post
      refine fun u W1 H1 x1 rel1 r1 => ?_
      have p1 : Post Γ X REq σ Wx W1 H1 st1 (M.bind (bln v) M.pure st1) Q := by rw [M.pure_bind]; exact post.rebase x1
      obtain ⟨b, rfl, p2⟩ := post_bln p1
      exact ⟨b, rv_bool r1, run_pure p2 rel1 rfl⟩
    | err ex st1 => rw [e] at post; exact post
    | bad => rw [e] at post; exact post
/-! ### arguments -/
theorem da_nil : DA Γ X [] (fun _ => M.pure []) := fun Wx tk => pa_nil.imp fun σ H Q ⟨W, ε, st, rel, env, post⟩ => run_pure post rel .nil
def unstar (e : Expr) : Bool := match e with
  | .Starred _ _ => false
  | _ => true
theorem star_cons {env : PySem.Env} (h : unstar e = true) : starEach (e :: es) env = (false, eval e env) :: starEach es env := by
  cases e <;> first | rfl | cases h
theorem da_cons (h : unstar e = true) (ha : DE Γ X e Fa) (hs : DA Γ X es Fs) : DA Γ X (e :: es) (fun ε => M.bind (Fa ε) fun v => M.bind (Fs ε) fun vs => M.pure (v :: vs)) := fun Wx tk =>
  (pa_cons (ha Wx tk) (hs Wx tk) (star_cons h)).imp fun σ H Q ⟨W, ε, st, rel, env, post⟩ => tG_of rel env post fun v x W1 H1 st1 e1 x1 rel1 env1 r1 p1 => tG_of rel1 env1 p1 fun us ys W2 H2 st2 e2 x2 rel2 env2 r2 p2 => by
    exact run_pure p2 rel2 (.cons (r1.ext rel1 x2) r2)
end
end Fx

set_option Elab.async false
set_option linter.all false
set_option maxRecDepth 100000
set_option maxHeartbeats 4000000
/-! Fx13: displays; items, slices; calls of what is built in; isinstance; repr. -/
namespace Fx
open PySem PySem.Spec PyProof.Rows L2 NdefX LamX
section
variable {Γ : Gc} {X : Cx} {k : Nat} {a b c e : Expr} {es rest : List Expr} {pos p p2 : Pos} {Fa Fb Fc : Env → M Val} {Fs : Env → M (List Val)} {i j : Nat} {x : Str} {l : Pos}
/-! ### displays -/
theorem pe_tupF {t : TA} {x1} (h : PA X es t) : PE X (.Tuple es x1 pos) (fun σ H Q => t σ H fun xs H1 => xs.length ≤ sizeLine ∧ ∀ p o, o.dict = none → H1 p = none → Q (.ref p) (upd H1 p (.frz o (.tup xs)))) := by
  refine ⟨fun pins s σ H Q I hq => ?_⟩
  refine wpAny_Tuple_spliced (thn (h.run pos pins s σ H _ I hq) fun us s1 ⟨xs, H1, I1, r, z, q⟩ => ⟨by rw [← r.length]; exact z, ?_⟩)
  exact ⟨.ref s1.heap.objs.size, _, newT (t' := s1.toks) I1 r z, rfl, q _ _ rfl I1.fresh⟩
theorem post_dats {α β : Type} {R : Rl α β} {σ σ' : L2.St} {Wx : WX} {W : Wd} {H : Hp} {st : Sto} {Q : β → Hp → Prop} (Rel0 : Rel Γ.T (kp X) W H st) : ∀ {xs : List Val} {vs : List V} {g : List PyData → M α}, RVl Γ X σ' W H st.length vs xs → Post Γ X R σ Wx W H st (M.bind (dats xs) g st) Q → ∃ ds, PlA (kp X) W.Hs vs ds ∧ Post Γ X R σ Wx W H st (g ds st) Q
  | [], _, g, .nil, p => ⟨[], .nil, p⟩
  | x :: xs, _, g, .cons r1 r2, p => by
    unfold dats at p
    rw [M.bind_assoc] at p
    obtain ⟨d, rfl, hd, p1⟩ := post_datP p
    rw [M.bind_assoc] at p1
    obtain ⟨ds, q, p2⟩ := post_dats Rel0 r2 p1
    exact ⟨d :: ds, .cons (Rp.plain r1 hd) q, p2⟩
theorem de_tup {x1} (hs : DA Γ X es Fs) : DE Γ X (.Tuple es x1 pos) (fun ε => M.bind (Fs ε) fun vs => M.bind (dats vs) fun xs => mkT xs) := fun Wx tk =>
  (pe_tupF (hs Wx tk)).imp fun σ H Q ⟨W, ε, st, rel, env, post⟩ => tG_of rel env post fun us ys W1 H1 st1 e1 x1 rel1 env1 r1 p1 => by
    obtain ⟨ds, q, p2⟩ := post_dats rel1 r1 p1
    unfold mkT at p2
    split at p2
    · rename_i hz
      have hz' : us.length ≤ sizeLine := by rw [q.length]; exact hz
      exact ⟨hz', fun p' o n hp => fin_new p2 rel1 hp fun Hs m e => pl_tup q hz' m n e⟩
    · exact p2.elim
theorem de_lst {ob : Bool} (hs : DA Γ X es Fs) : DE Γ X (.List es pos) (fun ε => M.bind (Fs ε) fun vs => M.bind (dats vs) fun xs => if xs.length ≤ sizeLine then mkL ob xs else M.bad) := fun Wx tk =>
  (pe_lst (hs Wx tk)).imp fun σ H Q ⟨W, ε, st, rel, env, post⟩ => tG_of rel env post fun us ys W1 H1 st1 e1 x1 rel1 env1 r1 p1 => by
    obtain ⟨ds, q, p2⟩ := post_dats rel1 r1 p1
    split at p2
    · rename_i hz
      have hz' : us.length ≤ sizeLine := by rw [q.length]; exact hz
      exact ⟨hz', fun p' hp => fin_mkL p2 rel1 hp q hz'⟩
    · exact p2.elim
/-! ### items, slices -/
def isSlice (e : Expr) : Bool := match e with
  | .Slice _ _ _ _ => true
  | _ => false
theorem plain_ix (h : isSlice b = false) : PlainIx b := by
  intro o i
  cases b <;> first | rfl | cases h
theorem de_sub (ha : DE Γ X a Fa) (hb : DE Γ X b Fb) (h : isSlice b = false) : DE Γ X (.Subscript a b pos) (fun ε => M.bind (Fa ε) fun v => M.bind (Fb ε) fun w => subB v w) := fun Wx tk =>
  (pe_ix ix_sub (ha Wx tk) (hb Wx tk) (plain_ix h)).imp (two_vals (fun _ _ _ _ h => h) Wx)
def tOs (Γ : Gc) (X : Cx) (F : Env → M (Option Int)) (Wx : WX) : TO := fun σ H Q => tG Γ X REq F Wx σ H Q
def DO (Γ : Gc) (X : Cx) (e : Option Expr) (F : Env → M (Option Int)) : Prop := ∀ Wx, Takes X Wx → PO X e (tOs Γ X F Wx)
theorem _root_.L2.PO.imp {X : Cx} {e : Option Expr} {t t' : TO} (h : PO X e t) (k : ∀ σ H Q, t' σ H Q → t σ H Q) : PO X e t' := ⟨fun pins s σ H Q I q => h.run pins s σ H Q I (k σ H Q q)⟩
theorem do_none : DO Γ X none (fun _ => M.pure none) := fun Wx tk => po_none.imp fun σ H Q ⟨W, ε, st, rel, env, post⟩ => run_pure post rel rfl
theorem do_some (ha : DE Γ X a Fa) : DO Γ X (some a) (fun ε => M.bind (Fa ε) fun v => (match v with
    | .d (.int i) => M.pure (some i)
    | _ => M.bad)) := fun Wx tk => (po_some (ha Wx tk)).imp fun σ H Q ⟨W, ε, st, rel, env, post⟩ => tG_of rel env post fun v x W1 H1 st1 e1 x1 rel1 env1 r1 p1 => by
    cases x with
    | d z =>
      cases z with
      | int i => exact ⟨i, rv_int r1, run_pure p1 rel1 rfl⟩
      | _ => exact p1.elim
    | _ => exact p1.elim
theorem de_slc {lo hi : Option Expr} {Fl Fh : Env → M (Option Int)} (ha : DE Γ X a Fa) (hl : DO Γ X lo Fl) (hh : DO Γ X hi Fh) : DE Γ X (.Subscript a (.Slice lo hi none p2) pos) (fun ε => M.bind (Fa ε) fun v => M.bind (Fl ε) fun l => M.bind (Fh ε) fun h => slcV v l h) := fun Wx tk =>
  (pe_slice sl_slc (ha Wx tk) (hl Wx tk) (hh Wx tk)).imp fun σ H Q ⟨W, ε, st, rel, env, post⟩ => tG_of rel env post fun v x W1 H1 st1 e1 x1 rel1 env1 r1 p1 => tG_of rel1 env1 p1 fun l l' W2 H2 st2 e2 x2 rel2 env2 r2 p2 => tG_of rel2 env2 p2 fun h h' W3 H3 st3 e3 x3 rel3 env3 r3 p3 => by
    cases r2
    cases r3
    exact ⟨σ, Wx, W3, st3, x, rel3, (r1.ext rel1 x2).ext rel2 x3, p3⟩
theorem de_rev {k1 : Nat} {p1 p2 p3 : Pos} (ha : DE Γ X a Fa) : DE Γ X (.Subscript a (.Slice none none (some (.UnaryOp .USub (.Constant (.int 1) k1 p1) p2)) p3) pos) (fun ε => M.bind (Fa ε) fun v => revV v) := fun Wx tk => (pe_revL (ha Wx tk)).imp fun σ H Q ⟨W, ε, st, rel, env, post⟩ => tG_of rel env post fun v x W1 H1 st1 e1 x1 rel1 env1 r1 p0 => by
    obtain ⟨d, e2, p⟩ := post_vw p0
    split at p
    · obtain ⟨l, vs, rfl, h1, hz, q⟩ := vw_list rel1 r1 e2
      exact ⟨l, vs, rfl, .inl h1, fun p' hp => fin_new p rel1 hp fun Hs m e => pl_lst q.reverse (by rw [List.length_reverse]; exact hz) m e⟩
    · exact p.elim
/-! ### calls of what is built in -/
def unstars (es : List Expr) : Bool := es.all unstar
theorem star_all {env : PySem.Env} : ∀ {es : List Expr}, unstars es = true → starEach es env = es.map fun e => (false, eval e env)
  | [], _ => rfl
  | e :: es, h => by
    unfold unstars at h
    rw [List.all_cons, Bool.and_eq_true] at h
    rw [star_cons h.1, star_all (es := es) h.2]
    rfl
theorem star_none {env : PySem.Env} {es : List Expr} (h : unstars es = true) : (backTo pos (starEach es env)).any (·.1) = false := by
  rw [star_all h]
  unfold backTo
  rw [List.map_map, List.any_map]
  induction es with
  | nil => rfl
  | cons e es ih =>
    unfold unstars at h
    rw [List.all_cons, Bool.and_eq_true] at h
    rw [List.any_cons, ih h.2]
    rfl
/-- what a name must be for one that is built in -/
structure Blt (X : Cx) (x : Str) (v : Value) : Prop where
  gl : Gl X x
  no : X.mg x = none
  is : bootBuiltins x = some v
  nm : x ≠ "__name__"
  db : (x == ("__debug__" : Str)) = false
theorem args_k {G : List Val → M Val} {Wx : WX} {σ : L2.St} {H : Hp} {Q : VK} (h : tE Γ X (fun ε => M.bind (Fs ε) G) Wx σ H Q) : tCB (rN Γ X G) (tAs Γ X Fs Wx) σ H Q := by
  obtain ⟨W, ε, st, rel, env, post⟩ := h
  exact tG_of rel env post fun us ys W1 H1 st1 e1 x1 rel1 env1 r1 p1 => ⟨σ, Wx, W1, st1, ys, rel1, r1, p1⟩
theorem de_bi {id : String} {G : List Val → M Val} (hc : CallR X (.builtin id) (rN Γ X G)) (hb : Blt X x (.builtin id)) (hs : DA Γ X (e :: es) Fs) (hu : unstars (e :: es) = true) : DE Γ X (.Call (.Name x p) (e :: es) [] pos) (fun ε => M.bind (Fs ε) G) := fun Wx tk => by
  have h2 := hu
  unfold unstars at h2
  rw [List.all_cons, Bool.and_eq_true] at h2
  exact (pe_callB hc hb.gl hb.no hb.is (hs Wx tk) hb.nm hb.db (star_cons h2.1) (star_none h2.2)).imp fun σ H Q h => args_k h
theorem de_bt {id : String} {G : List Val → M Val} (hc : CallR X (.type id) (rN Γ X G)) (hb : Blt X x (.type id)) (hs : DA Γ X (e :: es) Fs) (hu : unstars (e :: es) = true) : DE Γ X (.Call (.Name x p) (e :: es) [] pos) (fun ε => M.bind (Fs ε) G) := fun Wx tk => by
  have h2 := hu
  unfold unstars at h2
  rw [List.all_cons, Bool.and_eq_true] at h2
  exact (pe_callTy hc hb.gl hb.no hb.is (hs Wx tk) hb.nm hb.db (star_cons h2.1) (star_none h2.2)).imp fun σ H Q h => args_k h
/-! ### isinstance -/
def tyN : Ty → String
  | .int => "int"
  | .bool => "bool"
  | .str => "str"
  | .tuple => "tuple"
  | .list => "list"
def dtN : PyData → String
  | .none => "NoneType"
  | .bool _ => "bool"
  | .int _ => "int"
  | .str _ => "str"
  | .list _ => "list"
  | .tuple _ => "tuple"
  | .dict _ => "dict"
theorem pl_ty {K : PySem.W.Frag} {K' : Pw} {H : Hp} {v : V} {d : PyData} (h : Pl K' H v d) : TyX K H v (.type (dtN d)) := by
  cases h with
  | non => exact .base .non
  | bl b => exact .base (.bl b)
  | int i => exact .base (.int i)
  | str x _ _ => exact .base (.str x)
  | lst r _ _ =>
    rcases r with r | ⟨o, r⟩
    · exact .base (.lst r)
    · exact .base (.frz r)
  | tup r _ _ _ => exact .fTuple r
theorem kit_all (d : PyData) (h : isDct d = false) (t : Ty) : kitB (dtN d) (tyN t) = some (isiD d t) := by
  cases d <;> cases t <;> first | (cases h; done) | (show kitB _ _ = some _; simp only [dtN, tyN, isiD]; decide +kernel)
theorem cr_isi {t : Ty} : CallR X (.builtin "isinstance") (fun xs H Q => ∃ v, xs = [v, .ty (tyN t)] ∧ ∃ σ Wx W st x, Rel Γ.T (kp X) W H st ∧ RVs Γ X σ W H st.length v x ∧ Post Γ X (RVs Γ X σ) σ Wx W H st (M.bind (datP x) (fun d => bool (isiD d t)) st) Q) := by
  intro pins s σ' H vs us Q I rv h
  obtain ⟨v, rfl, σ, Wx, W, st, x, R, r1, p0⟩ := h
  obtain ⟨d, rfl, hd, p⟩ := post_datP p0
  exact call_isi pins s σ' H _ us Q I rv ⟨v, .ty (tyN t), _, _, _, rfl, .ty _, pl_ty (pl_dat R r1 hd), kit_ty (kit_all d hd t), fin_d p R (.pl (.bl _))⟩
theorem boot_ty : ∀ t : Ty, bootBuiltins (Str.ofString (tyN t)) = some (.type (tyN t)) := fun t => by cases t <;> decide +kernel
theorem de_isi {t : Ty} (hb : Blt X "isinstance" (.builtin "isinstance")) {y : Str} (ht : Blt X y (.type (tyN t))) (ha : DE Γ X a Fa) (hu : unstar a = true) {p3 : Pos} : DE Γ X (.Call (.Name "isinstance" p) [a, .Name y p3] [] pos) (fun ε => M.bind (Fa ε) fun v => M.bind (datP v) fun d => bool (isiD d t)) := fun Wx tk => by
  have hy : PA X [.Name y p3] (tCons (tC (.ty (tyN t))) tNil) := pa_cons (pe_bltn ht.gl ht.no ht.is rfl ht.nm ht.db) pa_nil (star_cons rfl)
  exact (pe_callB cr_isi hb.gl hb.no hb.is (pa_cons (ha Wx tk) hy (star_cons hu)) hb.nm hb.db (star_cons hu) (star_none rfl)).imp fun σ H Q ⟨W, ε, st, rel, env, post⟩ => tG_of rel env post fun v x W1 H1 st1 e1 x1 rel1 env1 r1 p1 =>
    ⟨v, rfl, σ, Wx, W1, st1, x, rel1, r1, p1⟩
end
end Fx

set_option Elab.async false
set_option linter.all false
set_option maxRecDepth 100000
set_option maxHeartbeats 4000000
/-! Fx14: x in a tuple of the module; repr; methods of lists and tuples. -/
namespace Fx
open PySem PySem.Spec PyProof.Rows L2 NdefX LamX
section
variable {Γ : Gc} {X : Cx} {k : Nat} {a b c e : Expr} {es rest : List Expr} {pos p p2 : Pos} {Fa Fb Fc : Env → M Val} {Fs : Env → M (List Val)} {i j : Nat} {x : Str} {l : Pos}
/-! ### in a tuple of the module -/
def ingF (neg : Bool) (v : Val) (xs : List PyData) : M Val := M.bind (dat v) fun d => M.bind (inD d (.tuple xs)) fun k => bool (if neg then !k else k)
theorem in_con (hr : Room k X.A) {A : Addr} {vs : List V} {xs : List PyData} (h1 : ∀ H, SqT X.K H A vs) (h2 : ∀ H, PlA (kp X) H vs xs) : OpR X (compareOp .In) (fun v u H Q => u = .ref A ∧ ∃ d, Pl (kp X) H v d ∧ d.depth ≤ 64 ∧ Q (.bl (xs.any fun y => PyData.eqv y d)) H) := by
  intro pins s σ H v u a b Q I rv ru h
  obtain ⟨rfl, d, hd, hz, q⟩ := h
  obtain ⟨as, q1⟩ := pl_reads I hd rv
  obtain ⟨bs, q2⟩ := Dp.reads I (.tuple xs) (.ref A) b (.tup (h1 H) (PlA.dp _ _ (h2 H))) ru
  refine PySem.SeqAt.in_tuple_reads q2 q1 (PlA.lay _ _ (h2 H)) (Pl.lay _ _ hd) ?_ ⟨.bl _, H, I, rfl, q⟩
  have := hr.un
  have := Nat.min_le_right (PyData.depthAll xs) d.depth
  omega
theorem ni_con (hr : Room k X.A) {A : Addr} {vs : List V} {xs : List PyData} (h1 : ∀ H, SqT X.K H A vs) (h2 : ∀ H, PlA (kp X) H vs xs) : OpR X (compareOp .NotIn) (fun v u H Q => u = .ref A ∧ ∃ d, Pl (kp X) H v d ∧ d.depth ≤ 64 ∧ Q (.bl (!xs.any fun y => PyData.eqv y d)) H) := by
  intro pins s σ H v u a b Q I rv ru h
  obtain ⟨rfl, d, hd, hz, q⟩ := h
  obtain ⟨as, q1⟩ := pl_reads I hd rv
  obtain ⟨bs, q2⟩ := Dp.reads I (.tuple xs) (.ref A) b (.tup (h1 H) (PlA.dp _ _ (h2 H))) ru
  refine PySem.SeqAt.notIn_tuple_reads q2 q1 (PlA.lay _ _ (h2 H)) (Pl.lay _ _ hd) ?_ ⟨.bl _, H, I, rfl, q⟩
  have := hr.un
  have := Nat.min_le_right (PyData.depthAll xs) d.depth
  omega
theorem inD_tup {α β : Type} {R : Rl α β} {σ : L2.St} {Wx : WX} {W : Wd} {H : Hp} {st : Sto} {Q : β → Hp → Prop} {d : PyData} {xs : List PyData} {g : Bool → M α} (p : Post Γ X R σ Wx W H st (M.bind (inD d (.tuple xs)) g st) Q) :
    isDct d = false ∧ d.depth ≤ 64 ∧ Post Γ X R σ Wx W H st (g (xs.any fun y => PyData.eqv y d) st) Q := by
  unfold inD at p
  cases hc : (!isDct d && decide (d.depth ≤ 64)) with
  | false => rw [hc] at p; exact p.elim
  | true =>
    rw [hc] at p
    simp only [Bool.and_eq_true, Bool.not_eq_true', decide_eq_true_eq] at hc
    exact ⟨hc.1, hc.2, p⟩
theorem de_ing (hX : GX Γ X) (hr : Room k X.A) {y : Str} {xs : List PyData} (hy : Γ.p.gt y = some xs) (hg : Gl X y) (hd : (y == ("__debug__" : Str)) = false) (ha : DE Γ X a Fa) : DE Γ X (.Compare a [.In] [.Name y p] pos) (fun ε => M.bind (Fa ε) fun v => ingF false v xs) := fun Wx tk => by
  obtain ⟨A, vs, h1, h2, h3⟩ := hX.glt y xs hy
  refine (pe_cmpR (in_con hr h2 h3) (ha Wx tk) (pe_glob (v := .ref A) hg h1 rfl hd) rfl).imp fun σ H Q ⟨W, ε, st, rel, env, post⟩ => tG_of rel env post fun v x W1 H1 st1 e1 x1 rel1 env1 r1 p0 => ?_
  obtain ⟨d, rfl, p1⟩ := post_dat p0
  obtain ⟨hd, hz, p2⟩ := inD_tup p1
  exact ⟨rfl, d, pl_dat rel1 r1 hd, hz, fin_d p2 rel1 (.pl (.bl _))⟩
theorem de_ni (hX : GX Γ X) (hr : Room k X.A) {y : Str} {xs : List PyData} (hy : Γ.p.gt y = some xs) (hg : Gl X y) (hd : (y == ("__debug__" : Str)) = false) (ha : DE Γ X a Fa) : DE Γ X (.Compare a [.NotIn] [.Name y p] pos) (fun ε => M.bind (Fa ε) fun v => ingF true v xs) := fun Wx tk => by
  obtain ⟨A, vs, h1, h2, h3⟩ := hX.glt y xs hy
  refine (pe_cmpR (ni_con hr h2 h3) (ha Wx tk) (pe_glob (v := .ref A) hg h1 rfl hd) rfl).imp fun σ H Q ⟨W, ε, st, rel, env, post⟩ => tG_of rel env post fun v x W1 H1 st1 e1 x1 rel1 env1 r1 p0 => ?_
  obtain ⟨d, rfl, p1⟩ := post_dat p0
  obtain ⟨hd, hz, p2⟩ := inD_tup p1
  exact ⟨rfl, d, pl_dat rel1 r1 hd, hz, fin_d p2 rel1 (.pl (.bl _))⟩
theorem dt_ing (hX : GX Γ X) (hr : Room k X.A) {y : Str} {xs : List PyData} (hy : Γ.p.gt y = some xs) (hg : Gl X y) (hd : (y == ("__debug__" : Str)) = false) (ha : DE Γ X a Fa) : DT Γ X (.Compare a [.In] [.Name y p] pos) (tst fun ε => M.bind (Fa ε) fun v => ingF false v xs) := fun Wx tk => by
  obtain ⟨A, vs, h1, h2, h3⟩ := hX.glt y xs hy
  refine (pt_cmpR (in_con hr h2 h3) (ha Wx tk) (pe_glob (v := .ref A) hg h1 rfl hd) rfl).imp fun σ H Q ⟨W, ε, st, rel, env, post⟩ => ?_
  unfold tst at post
  rw [M.bind_assoc] at post
  refine tG_of rel env post fun v x W1 H1 st1 e1 x1 rel1 env1 r1 p0 => ?_
  unfold ingF at p0
  rw [M.bind_assoc] at p0
  obtain ⟨d, rfl, p1⟩ := post_dat p0
  rw [M.bind_assoc] at p1
  obtain ⟨hd, hz, p2⟩ := inD_tup p1
  exact ⟨rfl, d, pl_dat rel1 r1 hd, hz, _, rfl, run_pure p2 rel1 rfl⟩
theorem dt_ni (hX : GX Γ X) (hr : Room k X.A) {y : Str} {xs : List PyData} (hy : Γ.p.gt y = some xs) (hg : Gl X y) (hd : (y == ("__debug__" : Str)) = false) (ha : DE Γ X a Fa) : DT Γ X (.Compare a [.NotIn] [.Name y p] pos) (tst fun ε => M.bind (Fa ε) fun v => ingF true v xs) := fun Wx tk => by
  obtain ⟨A, vs, h1, h2, h3⟩ := hX.glt y xs hy
  refine (pt_cmpR (ni_con hr h2 h3) (ha Wx tk) (pe_glob (v := .ref A) hg h1 rfl hd) rfl).imp fun σ H Q ⟨W, ε, st, rel, env, post⟩ => ?_
  unfold tst at post
  rw [M.bind_assoc] at post
  refine tG_of rel env post fun v x W1 H1 st1 e1 x1 rel1 env1 r1 p0 => ?_
  unfold ingF at p0
  rw [M.bind_assoc] at p0
  obtain ⟨d, rfl, p1⟩ := post_dat p0
  rw [M.bind_assoc] at p1
  obtain ⟨hd, hz, p2⟩ := inD_tup p1
  exact ⟨rfl, d, pl_dat rel1 r1 hd, hz, _, rfl, run_pure p2 rel1 rfl⟩
/-! ### repr(a) == repr(b) -/
theorem cr_repr (hr : Room k X.A) (hg : X.A.guards = some []) : CallR X (.builtin "repr") (fun vs H Q => ∃ v d, vs = [v] ∧ Pl (kp X) H v d ∧ repOk d = true ∧ Q (.str d.shown) H) := by
  intro pins s σ H vs us Q I rv h
  obtain ⟨v, d, rfl, hp, hk, q⟩ := h
  unfold repOk at hk
  simp only [Bool.and_eq_true, decide_eq_true_eq] at hk
  obtain ⟨⟨⟨h1, h2⟩, h3⟩, h4⟩ := hk
  obtain ⟨u, rfl, ru⟩ := vals1 rv
  obtain ⟨as, r⟩ := pl_reads I hp ru
  have hl := Pl.lay _ _ hp
  have fin : ∀ {A : Addr}, u = .ref A → wpAny (model X.prog X.w) X.A (call (.builtin "repr") [u]) (EP X pins σ Q) X.xe s := fun {A} e => by
    subst e
    exact PySem.repr_of_reads' r h1 (PySem.PyData.noDict_hsm (PySem.PyData.hasDict_of_canLay d hl)) hg (room_le hr (by omega)) (fun b o e => e) (fun h' u tk hk => ⟨.str _, H, I.kept hk, ⟨_, rfl⟩, q⟩) h3
  cases d with
  | list xs => cases hp with | lst a b c => cases ru; exact fin rfl
  | tuple xs => cases hp with | tup a n b c => cases ru; exact fin rfl
  | _ => cases h4
def repF (neg : Bool) (Fa Fb : Env → M Val) : Env → M Val := fun ε => M.bind (Fa ε) fun v => M.bind (vw v) fun x => if repOk x then M.bind (Fb ε) fun w => M.bind (vw w) fun y => (if repOk y then bool (if neg then !(decide (x.shown = y.shown)) else decide (x.shown = y.shown)) else M.bad) else M.bad
theorem repOk_dct {x : PyData} (h : repOk x = true) : isDct x = false := by
  unfold repOk at h
  simp only [Bool.and_eq_true] at h
  cases x <;> first | rfl | (exfalso; have := h.2; cases this)
theorem rep_k {neg : Bool} {Wx : WX} {σ : L2.St} {H : Hp} {Q : VK} {r : R2} (h : tE Γ X (repF neg Fa Fb) Wx σ H Q)
    (hr : ∀ x y H Q, Q (.bl (if neg then !(decide (x = y)) else decide (x = y))) H → r (.str x) (.str y) H Q) :
    tOp r (tCB (fun vs H Q => ∃ v d, vs = [v] ∧ Pl (kp X) H v d ∧ repOk d = true ∧ Q (.str d.shown) H) (tCons (tE Γ X Fa Wx) tNil))
      (tCB (fun vs H Q => ∃ v d, vs = [v] ∧ Pl (kp X) H v d ∧ repOk d = true ∧ Q (.str d.shown) H) (tCons (tE Γ X Fb Wx) tNil)) σ H Q := by
  obtain ⟨W, ε, st, rel, env, post⟩ := h
  refine tG_of rel env post fun v x W1 H1 st1 e1 x1 rel1 env1 r1 p0 => ?_
  obtain ⟨d, ed, p1⟩ := post_vw p0
  cases hd : repOk d with
  | false => simp only [hd, Bool.false_eq_true, if_false] at p1; exact p1.elim
  | true =>
    simp only [hd, if_true] at p1
    refine ⟨v, d, rfl, vw_pl rel1 r1 ed (repOk_dct hd), hd, ?_⟩
    refine tG_of rel1 env1 p1 fun u y W2 H2 st2 e2 x2 rel2 env2 r2 p2 => ?_
    obtain ⟨d2, ed2, p3⟩ := post_vw p2
    cases hd2 : repOk d2 with
    | false => simp only [hd2, Bool.false_eq_true, if_false] at p3; exact p3.elim
    | true =>
      simp only [hd2, if_true] at p3
      exact ⟨u, d2, rfl, vw_pl rel2 r2 ed2 (repOk_dct hd2), hd2, hr _ _ _ _ (fin_d p3 rel2 (.pl (.bl _)))⟩
theorem dec_V {x y : Str} : decide (V.str x = V.str y) = decide (x = y) := by
  by_cases h : x = y
  · subst h; simp
  · rw [decide_eq_false h, decide_eq_false fun z => h (by injection z)]
theorem pe_rep (hr : Room k X.A) (hg : X.A.guards = some []) (hb : Blt X "repr" (.builtin "repr")) (ha : DE Γ X a Fa) (hu : unstar a = true) (Wx : WX) (tk : Takes X Wx) :
    PE X (.Call (.Name "repr" p) [a] [] pos) (tCB (fun vs H Q => ∃ v d, vs = [v] ∧ Pl (kp X) H v d ∧ repOk d = true ∧ Q (.str d.shown) H) (tCons (tE Γ X Fa Wx) tNil)) :=
  pe_callB (cr_repr hr hg) hb.gl hb.no hb.is (pa_cons (ha Wx tk) pa_nil (star_cons hu)) hb.nm hb.db (star_cons hu) (star_none rfl)
theorem de_repN (hr : Room k X.A) (hg : X.A.guards = some []) (hb : Blt X "repr" (.builtin "repr")) (ha : DE Γ X a Fa) (hu : unstar a = true) (hc : DE Γ X c Fc) (hv : unstar c = true) {q1 q2 q3 q4 : Pos} :
    DE Γ X (.Compare (.Call (.Name "repr" q1) [a] [] q2) [.NotEq] [.Call (.Name "repr" q3) [c] [] q4] pos) (repF true Fa Fc) := fun Wx tk =>
  (pe_cmpR op_ne (pe_rep hr hg hb ha hu Wx tk) (pe_rep hr hg hb hc hv Wx tk) rfl).imp fun σ H Q h => rep_k h fun x y H Q q => ⟨rfl, by rw [dec_V]; exact q⟩
theorem de_repE (hr : Room k X.A) (hg : X.A.guards = some []) (hb : Blt X "repr" (.builtin "repr")) (ha : DE Γ X a Fa) (hu : unstar a = true) (hc : DE Γ X c Fc) (hv : unstar c = true) {q1 q2 q3 q4 : Pos} :
    DE Γ X (.Compare (.Call (.Name "repr" q1) [a] [] q2) [.Eq] [.Call (.Name "repr" q3) [c] [] q4] pos) (repF false Fa Fc) := fun Wx tk =>
  (pe_cmpR op_eq (pe_rep hr hg hb ha hu Wx tk) (pe_rep hr hg hb hc hv Wx tk) rfl).imp fun σ H Q h => rep_k h fun x y H Q q => ⟨rfl, by rw [dec_V]; exact q⟩
theorem tst_tE {F : Env → M Val} {Wx : WX} {σ : L2.St} {H : Hp} {Q : Bool → Hp → Prop} (h : tTs Γ X (tst F) Wx σ H Q) : tE Γ X F Wx σ H (fun x H' => ∃ k, x = .bl k ∧ Q k H') := by
  obtain ⟨W, ε, st, rel, env, post⟩ := h
  refine ⟨W, ε, st, rel, env, ?_⟩
  have post : Post Γ X REq σ Wx W H st (M.bind (F ε) (fun v => bln v) st) Q := post
  unfold M.bind at post
  cases e : F ε st with
  | ok v st1 =>
    rw [e] at post
    refine fun u W1 H1 x1 rel1 r1 => ?_
    have p1 : Post Γ X REq σ Wx W1 H1 st1 (M.bind (bln v) M.pure st1) Q := by rw [M.pure_bind]; exact post.rebase x1
    obtain ⟨b, rfl, p2⟩ := post_bln p1
    exact ⟨b, rv_bool r1, run_pure p2 rel1 rfl⟩
  | err ex st1 => rw [e] at post; exact post
  | bad => rw [e] at post; exact post
theorem dt_repN (hr : Room k X.A) (hg : X.A.guards = some []) (hb : Blt X "repr" (.builtin "repr")) (ha : DE Γ X a Fa) (hu : unstar a = true) (hc : DE Γ X c Fc) (hv : unstar c = true) {q1 q2 q3 q4 : Pos} :
    DT Γ X (.Compare (.Call (.Name "repr" q1) [a] [] q2) [.NotEq] [.Call (.Name "repr" q3) [c] [] q4] pos) (tst (repF true Fa Fc)) := fun Wx tk =>
  (pt_cmpR op_ne (pe_rep hr hg hb ha hu Wx tk) (pe_rep hr hg hb hc hv Wx tk) rfl).imp fun σ H Q h => rep_k (tst_tE h) fun x y H Q q => ⟨rfl, by rw [dec_V]; exact q⟩
theorem dt_repE (hr : Room k X.A) (hg : X.A.guards = some []) (hb : Blt X "repr" (.builtin "repr")) (ha : DE Γ X a Fa) (hu : unstar a = true) (hc : DE Γ X c Fc) (hv : unstar c = true) {q1 q2 q3 q4 : Pos} :
    DT Γ X (.Compare (.Call (.Name "repr" q1) [a] [] q2) [.Eq] [.Call (.Name "repr" q3) [c] [] q4] pos) (tst (repF false Fa Fc)) := fun Wx tk =>
  (pt_cmpR op_eq (pe_rep hr hg hb ha hu Wx tk) (pe_rep hr hg hb hc hv Wx tk) rfl).imp fun σ H Q h => rep_k (tst_tE h) fun x y H Q q => ⟨rfl, by rw [dec_V]; exact q⟩
end
end Fx

set_option Elab.async false
set_option linter.all false
set_option maxRecDepth 100000
set_option maxHeartbeats 4000000
/-! Fx15: dicts. -/
namespace Fx
open PySem PySem.Spec PyProof.Rows L2 NdefX LamX
/-! ### keys as data -/
theorem keyD_inj {a b : Key} (h : keyD a = keyD b) : a = b := by
  cases a <;> cases b <;> simp [keyD] at h <;> rw [h]
theorem dEq_key (a b : Key) : dEq (keyD a) (keyD b) = decide (a = b) := by
  cases a <;> cases b <;> simp [keyD, dEq]
theorem dEqs_key : ∀ a b : List Key, dEqs (a.map keyD) (b.map keyD) = decide (a = b)
  | [], [] => by simp [dEqs]
  | [], _ :: _ => by simp [dEqs]
  | _ :: _, [] => by simp [dEqs]
  | x :: xs, y :: ys => by
    rw [List.map_cons, List.map_cons]
    unfold dEqs
    rw [dEq_key, dEqs_key xs ys, Bool.eq_iff_iff]
    simp
theorem dEq_tk (a b : List Key) : dEq (tkD a) (tkD b) = decide (a = b) := by
  unfold tkD dEq
  exact dEqs_key a b
theorem flat_keys : ∀ {xs : List PyData}, xs.all flatK = true → ∃ ks : List Key, xs = ks.map keyD
  | [], _ => ⟨[], rfl⟩
  | x :: xs, h => by
    rw [List.all_cons, Bool.and_eq_true] at h
    obtain ⟨ks, rfl⟩ := flat_keys h.2
    cases x with
    | int i => exact ⟨.inl i :: ks, rfl⟩
    | str z => exact ⟨.inr z :: ks, rfl⟩
    | _ => cases h.1
section
variable {K : Pw} {H : Hp}
theorem key_pl {v : V} {k : Key} (h : Pl K H v (keyD k)) : v = kV k := by
  cases k <;> cases h <;> rfl
theorem keys_pl : ∀ {ks : List Key} {vs : List V}, PlA K H vs (ks.map keyD) → vs = ks.map kV
  | [], _, h => by cases h; rfl
  | k :: ks, _, h => by
    cases h with
    | cons r t => rw [key_pl r, keys_pl t]; rfl
/-! ### what is looked up, what is put -/
theorem KP.look {k : Key} : ∀ {kvs : List (Key × V)} {ps : List (PyData × PyData)}, KP K H kvs ps → (lookD ps (keyD k) = none ∧ valV kvs k = none) ∨ ∃ d v, lookD ps (keyD k) = some d ∧ valV kvs k = some v ∧ Pl K H v d
  | _, _, .nil => .inl ⟨rfl, rfl⟩
  | p :: kvs, q :: ps, .cons ⟨h1, _, h2⟩ t => by
    unfold lookD valV
    rw [List.find?_cons, List.find?_cons, h1, dEq_key]
    by_cases e : p.1 = k
    · rw [decide_eq_true e]
      exact .inr ⟨_, _, rfl, rfl, h2⟩
    · rw [decide_eq_false e]
      exact KP.look t
theorem KP.put {k : Key} {v : V} {d : PyData} (hd : Pl K H v d) {kvs : List (Key × V)} {ps : List (PyData × PyData)} (hk : ∀ x, k = .inr x → PyData.strOk x = true ∧ x.length ≤ sizeLine) (h : KP K H kvs ps) : KP K H (putK kvs k v) (putD ps (keyD k) d) := by
  have hm : ∀ {kvs : List (Key × V)} {ps : List (PyData × PyData)}, KP K H kvs ps → KP K H (kvs.map fun kv => if kv.1 = k then (kv.1, v) else kv) (ps.map fun p => if dEq p.1 (keyD k) then (p.1, d) else p) := by
    intro kvs ps h
    induction h with
    | nil => exact .nil
    | @cons p q _ _ r t ih =>
      obtain ⟨h1, h2, h3⟩ := r
      refine .cons ?_ ih
      dsimp only
      by_cases e : p.1 = k
      · rw [if_pos e, if_pos (by rw [h1, dEq_key]; exact decide_eq_true e)]; exact ⟨h1, h2, hd⟩
      · rw [if_neg e, if_neg (by rw [h1, dEq_key, decide_eq_false e]; exact Bool.false_ne_true)]; exact ⟨h1, h2, h3⟩
  unfold putK putD
  rw [valV_any]
  rcases h.look (k := k) with ⟨e1, e2⟩ | ⟨d', v', e1, e2, _⟩
  · rw [e1, e2]
    exact Paired.snoc h ⟨rfl, hk, hd⟩
  · rw [e1, e2]
    exact hm h
def lookT (ks : List (List Key × Addr × V)) (k : List Key) : Option V := (ks.find? fun q => decide (q.1 = k)).map (·.2.2)
def putT (ks : List (List Key × Addr × V)) (k : List Key) (b : Addr) (v : V) : List (List Key × Addr × V) := if (lookT ks k).isSome then ks.map (fun q => if q.1 = k then (q.1, q.2.1, v) else q) else ks ++ [(k, b, v)]
theorem TP.look {k : List Key} : ∀ {kvs : List (List Key × Addr × V)} {ps : List (PyData × PyData)}, TP K H kvs ps → (lookD ps (tkD k) = none ∧ lookT kvs k = none) ∨ ∃ d v, lookD ps (tkD k) = some d ∧ lookT kvs k = some v ∧ Pl K H v d
  | _, _, .nil => .inl ⟨rfl, rfl⟩
  | p :: kvs, q :: ps, .cons ⟨h1, _, h2⟩ t => by
    unfold lookD lookT
    rw [List.find?_cons, List.find?_cons, h1, dEq_tk]
    by_cases e : p.1 = k
    · rw [decide_eq_true e]
      exact .inr ⟨_, _, rfl, rfl, h2⟩
    · rw [decide_eq_false e]
      exact TP.look t
theorem TP.put {k : List Key} {v : V} {b : Addr} {d : PyData} (hd : Pl K H v d) (hb : Pl K H (.ref b) (tkD k)) {kvs : List (List Key × Addr × V)} {ps : List (PyData × PyData)} (h : TP K H kvs ps) : TP K H (putT kvs k b v) (putD ps (tkD k) d) := by
  have hm : ∀ {kvs : List (List Key × Addr × V)} {ps : List (PyData × PyData)}, TP K H kvs ps → TP K H (kvs.map fun q => if q.1 = k then (q.1, q.2.1, v) else q) (ps.map fun p => if dEq p.1 (tkD k) then (p.1, d) else p) := by
    intro kvs ps h
    induction h with
    | nil => exact .nil
    | @cons p q _ _ r t ih =>
      obtain ⟨h1, h2, h3⟩ := r
      refine .cons ?_ ih
      dsimp only
      by_cases e : p.1 = k
      · rw [if_pos e, if_pos (by rw [h1, dEq_tk]; exact decide_eq_true e)]; exact ⟨h1, h2, hd⟩
      · rw [if_neg e, if_neg (by rw [h1, dEq_tk, decide_eq_false e]; exact Bool.false_ne_true)]; exact ⟨h1, h2, h3⟩
  unfold putT putD
  rcases h.look (k := k) with ⟨e1, e2⟩ | ⟨d', v', e1, e2, _⟩
  · rw [e1, e2]
    exact Paired.snoc h ⟨rfl, hb, hd⟩
  · rw [e1, e2]
    exact hm h
theorem length_putT (ks : List (List Key × Addr × V)) (k : List Key) (b : Addr) (v : V) : (putT ks k b v).length ≤ ks.length + 1 := by
  unfold putT
  split
  · rw [List.length_map]; omega
  · rw [List.length_append]; exact Nat.le_refl _
/-! ### dicts whose keys are tuples, in the heap -/
abbrev KX : List (List Key × Addr × V) → List (List Key × Addr × Value) → Prop := Paired fun p q => p.1 = q.1 ∧ p.2.1 = q.2.1 ∧ RelV p.2.2 q.2.2
def TDk (H : Hp) (ks : List (List Key × Addr × V)) : Prop := ∀ p ∈ ks, ∃ o, H p.2.1 = some (.frz o (.tup (p.1.map kV)))
theorem TP.keys {H' : Hp} (s : Sub H H') : ∀ {kvs : List (List Key × Addr × V)} {ps : List (PyData × PyData)}, TP K H kvs ps → TDk H' kvs
  | _, _, .nil => fun _ h => by cases h
  | _, _, .cons ⟨h1, h2, _⟩ t => fun p hp => by
    rcases List.mem_cons.mp hp with rfl | hp
    · rw [h1] at h2
      unfold tkD at h2
      cases h2 with
      | tup a n b c => rw [keys_pl c] at a; exact ⟨_, s.tup a⟩
    · exact TP.keys s t p hp
theorem KX.val {k : List Key} : ∀ {ks : List (List Key × Addr × V)} {xs : List (List Key × Addr × Value)}, KX ks xs → RelO (lookT ks k) ((atKey xs k).map (·.2))
  | _, _, .nil => True.intro
  | p :: ks, q :: xs, .cons ⟨h1, h2, h3⟩ t => by
    unfold lookT atKey
    rw [List.find?_cons, List.find?_cons, ← h1]
    by_cases e : p.1 = k
    · rw [decide_eq_true e]; exact h3
    · rw [decide_eq_false e]; exact KX.val t
theorem KX.put {k : List Key} {b : Addr} {v : V} {u : Value} (rv : RelV v u) {ks : List (List Key × Addr × V)} {xs : List (List Key × Addr × Value)} (h : KX ks xs) : KX (putT ks k b v) (storedH xs k b u) := by
  have hm : ∀ {ks : List (List Key × Addr × V)} {xs : List (List Key × Addr × Value)}, KX ks xs → KX (ks.map fun q => if q.1 = k then (q.1, q.2.1, v) else q) (xs.map (putAt k u)) := by
    intro ks xs h
    induction h with
    | nil => exact .nil
    | @cons p q _ _ r t ih =>
      obtain ⟨h1, h2, h3⟩ := r
      refine .cons ?_ ih
      unfold putAt
      dsimp only
      by_cases e : p.1 = k
      · rw [if_pos e, if_pos (h1.symm.trans e)]; exact ⟨h1, h2, rv⟩
      · rw [if_neg e, if_neg (fun z => e (h1.trans z))]; exact ⟨h1, h2, h3⟩
  have e : (lookT ks k).isSome = (atKey xs k).isSome := by rw [(h.val (k := k)).isSome_eq, Option.isSome_map]
  unfold putT storedH
  rw [e]
  by_cases q : (atKey xs k).isSome = true
  · rw [if_pos q, if_pos q]; exact hm h
  · rw [if_neg q, if_neg q]; exact Paired.snoc h ⟨rfl, rfl, rv⟩
end
section
variable {X : Cx} {pins : List (Addr × PySem.Obj)} {σ : L2.St} {H : Hp} {s : Shared} {a b : Addr} {ks : List (List Key × Addr × V)} {k : List Key}
theorem is_key {o : PySem.Obj} (I : Inv X pins σ H s) (h : H b = some (.frz o (.tup (k.map kV)))) : (tupleKind (mixKind X.prog X.w)).is s.heap k b := by
  obtain ⟨_, _, its, r, o, h1, h2, n, h3⟩ := I.hok b _ h
  exact ⟨o, its.toArray, n, h1, h2, h3, by simpa using items_are r⟩
theorem td_rd (I : Inv X pins σ H s) (e : Rd H a (TD (kp X) a ks)) (hk : TDk H ks) : ks.length ≤ sizeLine ∧ (a == sysModules) = false ∧ ∃ xs, KX ks xs ∧ s.heap.DictOfH (tupleKind (mixKind X.prog X.w)) a xs := by
  obtain ⟨⟨z, y, xs, r, o, es, ep, h1, h2, h3, h4, h5⟩, _⟩ := e.ok I.hok
  refine ⟨z, y, xs, r, o, es, ep, h1, h2, h3, h4, ?_, h5⟩
  have all : ∀ {l : List (List Key × Addr × V)} {m : List (List Key × Addr × Value)}, KX l m → TDk H l → ∀ x ∈ m, (tupleKind (mixKind X.prog X.w)).is s.heap x.1 x.2.1 := by
    intro l m q
    induction q with
    | nil => intro _ x hx; cases hx
    | @cons p q ps qs hq t ih =>
      intro hk x hx
      rcases List.mem_cons.mp hx with rfl | hx
      · obtain ⟨o, ho⟩ := hk p List.mem_cons_self
        rw [← hq.1, ← hq.2.1]
        exact is_key I ho
      · exact ih (fun p hp => hk p (List.mem_cons_of_mem _ hp)) x hx
  exact all r hk
theorem td_ok {P : Program} {w : World} {H' : Hp} {h' : Heap} {K : Pw} {xs : List (List Key × Addr × Value)} (z : ks.length ≤ sizeLine) (y : (a == sysModules) = false) (r : KX ks xs) (d : h'.DictOfH (tupleKind (mixKind K.P K.w)) a xs) : ObjOk P w H' h' a (TD K a ks) := by
  obtain ⟨o, es, ep, h1, h2, h3, h4, _, h5⟩ := d
  refine ⟨⟨z, y, xs, r, o, es, ep, h1, h2, h3, h4, h5⟩, ⟨o, h1⟩, ?_⟩
  rintro g1 g2 ⟨z, y, xs, r, o, es, ep, h1, h2, h3, h4, h5⟩ st
  exact ⟨z, y, xs, r, o, es, ep, st _ h1, h2, h3, h4, h5⟩
/-- what the dict at a holds at the key y -/
def DAt (X : Cx) (H : Hp) (a : Addr) (y : V) (r : Option V) : Prop := DGet H a y r ∨ ∃ ks k b o, Rd H a (TD (kp X) a ks) ∧ TDk H ks ∧ y = .ref b ∧ H b = some (.frz o (.tup (k.map kV))) ∧ r = lookT ks k
variable {y v d : V} {u r : Value} {o : Option V} {A : Around} {E : Value → Shared → Prop}
theorem ref_of (h : RelV (.ref b) u) : u = Value.ref b := h
theorem D_getItem {Q : Value → Shared → Prop} (hu : A.units + 1 < cLine) (I : Inv X pins σ H s) (g : DAt X H a y (some v)) (ry : RelV y u) (h : ∀ w' s', Inv X pins σ H s' → RelV v w' → Q w' s') : wpAny (model X.prog X.w) A (getItem (.ref a) u) Q E s := by
  rcases g with g | ⟨ks, k, b, o, e, hk, rfl, hb, l⟩
  · exact d_getItem hu I g ry h
  · cases ref_of ry
    obtain ⟨z, hd, xs, rel, dd⟩ := td_rd I e hk
    have q := rel.val (k := k)
    rw [← l] at q
    cases hw : (atKey xs k) with
    | none => rw [hw] at q; exact q.elim
    | some p =>
      rw [hw] at q
      exact wpAny_getItem_heap (tupleKind_room_in1 hu) (is_key I hb) dd hw (h _ _ (I.tok _) q)
theorem D_in {Q : Value → Shared → Prop} (hu : A.units + 1 < cLine) (I : Inv X pins σ H s) (g : DAt X H a y o) (ry : RelV y u) (h : ∀ s', Inv X pins σ H s' → Q (.bool o.isSome) s') : wpAny (model X.prog X.w) A (compareOp .In u (.ref a)) Q E s := by
  rcases g with g | ⟨ks, k, b, o', e, hk, rfl, hb, l⟩
  · exact d_in hu I g ry h
  · cases ref_of ry
    obtain ⟨z, hd, xs, rel, dd⟩ := td_rd I e hk
    refine wpAny_in_heap (tupleKind_room_in1 hu) (is_key I hb) hd dd ?_
    have q := (rel.val (k := k)).isSome_eq
    rw [Option.isSome_map] at q
    rw [← q, ← l]
    exact h _ (I.tok _)
theorem D_notIn {Q : Value → Shared → Prop} (hu : A.units + 1 < cLine) (I : Inv X pins σ H s) (g : DAt X H a y o) (ry : RelV y u) (h : ∀ s', Inv X pins σ H s' → Q (.bool (!o.isSome)) s') : wpAny (model X.prog X.w) A (compareOp .NotIn u (.ref a)) Q E s := by
  rcases g with g | ⟨ks, k, b, o', e, hk, rfl, hb, l⟩
  · exact d_notIn hu I g ry h
  · cases ref_of ry
    obtain ⟨z, hd, xs, rel, dd⟩ := td_rd I e hk
    refine wpAny_notIn_heap (tupleKind_room_in1 hu) (is_key I hb) hd dd ?_
    have q := (rel.val (k := k)).isSome_eq
    rw [Option.isSome_map] at q
    rw [← q, ← l]
    exact h _ (I.tok _)
theorem D_get1 {Q : Value → Shared → Prop} (hu : A.units + 1 < cLine) (I : Inv X pins σ H s) (g : DAt X H a y o) (ry : RelV y u) (h : ∀ w' s', Inv X pins σ H s' → RelV (o.getD .non) w' → Q w' s') : wpAny (model X.prog X.w) A (call (.builtin "dict.get") [.ref a, u]) Q E s := by
  rcases g with g | ⟨ks, k, b, o', e, hk, rfl, hb, l⟩
  · exact d_get1 hu I g ry h
  · cases ref_of ry
    obtain ⟨z, hd, xs, rel, dd⟩ := td_rd I e hk
    refine call_meetsIn PySem.F.slot_dict_get dd.typeIs PySem.F.entry_dict_get (PySem.F.args_dict_get_2 _ _) (meetsH_dict_get (tupleKind (mixKind X.prog X.w)) a b hd) ⟨tupleKind_room_in1 hu, k, xs, is_key I hb, dd, h _ _ (I.tok _) ?_⟩
    rw [l]
    exact (rel.val (k := k)).getD rfl
theorem D_get2 {Q : Value → Shared → Prop} (hu : A.units + 1 < cLine) (I : Inv X pins σ H s) (g : DAt X H a y o) (ry : RelV y u) (rd : RelV d r) (h : ∀ w' s', Inv X pins σ H s' → RelV (o.getD d) w' → Q w' s') : wpAny (model X.prog X.w) A (call (.builtin "dict.get") [.ref a, u, r]) Q E s := by
  rcases g with g | ⟨ks, k, b, o', e, hk, rfl, hb, l⟩
  · exact d_get2 hu I g ry rd h
  · cases ref_of ry
    obtain ⟨z, hd, xs, rel, dd⟩ := td_rd I e hk
    refine call_meetsIn PySem.F.slot_dict_get dd.typeIs PySem.F.entry_dict_get (PySem.F.args_dict_get_3 _ _ _) (meetsH_dict_get_default (tupleKind (mixKind X.prog X.w)) a b hd r) ⟨tupleKind_room_in1 hu, k, xs, is_key I hb, dd, h _ _ (I.tok _) ?_⟩
    rw [l]
    exact (rel.val (k := k)).getD rd
theorem D_ty (I : Inv X pins σ H s) (g : (∃ kvs, Rd H a (.dK kvs)) ∨ ∃ ks, Rd H a (TD (kp X) a ks) ∧ TDk H ks) : s.TypeIs (.ref a) "dict" ∧ (∀ b, Value.ref a = .ref b → ∃ ob, s.heap.get? b = some ob ∧ ob.dict = none) ∧ (a == sysModules) = false := by
  rcases g with ⟨kvs, e⟩ | ⟨ks, e, hk⟩
  · exact isD_at I (.inl ⟨_, e⟩)
  · obtain ⟨_, hd, xs, _, dd⟩ := td_rd I e hk
    refine ⟨dd.typeIs, fun b q => ?_, hd⟩
    cases q
    obtain ⟨ob, _, _, h1, h2, _⟩ := dd
    exact ⟨ob, h1, h2.2.1⟩
theorem DAt.ty (g : DAt X H a y o) : (∃ kvs, Rd H a (.dK kvs)) ∨ (∃ ks, Rd H a (TD (kp X) a ks) ∧ TDk H ks) ∨ ∃ kvs, Rd H a (.dT kvs) := by
  rcases g with (⟨kvs, k, e, _⟩ | ⟨kvs, k, b, e, _⟩) | ⟨ks, k, b, o, e, hk, _⟩
  · exact .inl ⟨_, e⟩
  · exact .inr (.inr ⟨_, e⟩)
  · exact .inr (.inl ⟨_, e, hk⟩)
theorem DAt.typeIs (I : Inv X pins σ H s) (g : DAt X H a y o) : s.TypeIs (.ref a) "dict" := by
  rcases g.ty with h | h | ⟨kvs, e⟩
  · exact (D_ty I (.inl h)).1
  · exact (D_ty I (.inr h)).1
  · exact (isD_at I (.inr ⟨_, e⟩)).1
/-- a[y] = v -/
theorem D_setT {o' : PySem.Obj} {Q : Unit → Shared → Prop} (hu : A.units + 1 < cLine) (I : Inv X pins σ H s) (e : H a = some (TD (kp X) a ks)) (hk : TDk H ks) (hb : H b = some (.frz o' (.tup (k.map kV)))) (hl : ks.length < sizeLine) (rv : RelV v r)
    (h : ∀ s', Inv X pins σ (upd H a (TD (kp X) a (putT ks k b v))) s' → Q () s') : wpAny (model X.prog X.w) A (setItem (.ref a) (.ref b) r) Q E s := by
  obtain ⟨z, hd, xs, rel, dd⟩ := td_rd I (.of e) hk
  have hz : xs.length ≤ sizeLine := by rw [← Paired.length rel]; exact z
  have hl2 : (putT ks k b v).length ≤ sizeLine := by have := length_putT ks k b v; omega
  refine wpAny_setItem_heap (hsz := hz) (tupleKind_room_in1 hu) (is_key I hb) dd fun h' dd' hs => h _ ?_
  have he : ∃ q, h'.get? a = some q := let ⟨q, _, _, hq, _⟩ := dd'; ⟨q, hq⟩
  exact d_write I (by rw [e]; exact True.intro) hs he (td_ok hl2 hd (rel.put rv) dd')
end
end Fx

set_option Elab.async false
set_option linter.all false
set_option maxRecDepth 100000
set_option maxHeartbeats 4000000
/-! Fx16: dicts and methods as expressions. -/
namespace Fx
open PySem PySem.Spec PyProof.Rows L2 NdefX LamX
section
variable {α β : Type} {Γ : Gc} {X : Cx} {R : Rl α β} {P : L2.St → Prop} {σ : L2.St} {Wx : WX} {W : Wd} {H : Hp} {st : Sto} {x : Val} {Q : β → Hp → Prop} {v y : V} {kd : PyData}
theorem post_ask (Rl : Rel Γ.T (kp X) W H st) (r : RV Γ X P W H st.length v x) (hk : RV Γ X P W H st.length y (.d kd)) {g : Option PyData → M α} (p : Post Γ X R σ Wx W H st (M.bind (askD x kd) g st) Q) :
    ∃ a z o, v = .ref a ∧ DAt X H a y z ∧ ((o = none ∧ z = none) ∨ ∃ d u, o = some d ∧ z = some u ∧ Pl (kp X) W.Hs u d) ∧ Post Γ X R σ Wx W H st (g o st) Q := by
  unfold askD at p
  rw [M.bind_assoc] at p
  obtain ⟨q, eq, p1⟩ := post_dct p
  obtain ⟨a, rfl, ha⟩ := dct_at Rl r eq
  cases hc : (isKey kd && (isTk kd == q.1)) with
  | false => simp only [hc, Bool.false_eq_true, if_false] at p1; exact p1.elim
  | true =>
    simp only [hc, if_true] at p1
    rw [Bool.and_eq_true] at hc
    have p2 : Post Γ X R σ Wx W H st (g (lookD q.2 kd) st) Q := p1
    have hpl : isDct kd = false := by cases kd <;> first | rfl | (exfalso; exact Bool.false_ne_true hc.1)
    have hp : Pl (kp X) W.Hs y kd := Rp.plain hk hpl
    rcases ha with ⟨e1, kvs, hr, hkv⟩ | ⟨e1, kvs, hr, hkv⟩
    · rw [e1] at hc
      have : ∃ k, kd = keyD k := by
        cases kd with
        | int i => exact ⟨.inl i, rfl⟩
        | str z => exact ⟨.inr z, rfl⟩
        | tuple xs => cases hc.2
        | _ => cases hc.1
      obtain ⟨k, rfl⟩ := this
      rw [key_pl hp]
      refine ⟨a, valV kvs k, lookD q.2 (keyD k), rfl, .inl (.inl ⟨kvs, k, hr, rfl, rfl⟩), ?_, p2⟩
      rcases KP.look hkv (k := k) with ⟨h1, h2⟩ | ⟨d, u, h1, h2, h3⟩
      · exact .inl ⟨h1, h2⟩
      · exact .inr ⟨d, u, h1, h2, h3⟩
    · rw [e1] at hc
      have : ∃ ks : List Key, kd = tkD ks := by
        cases kd with
        | tuple xs => obtain ⟨ks, rfl⟩ := flat_keys hc.1; exact ⟨ks, rfl⟩
        | _ => cases hc.2
      obtain ⟨k, rfl⟩ := this
      unfold tkD at hp
      cases hp with
      | tup h1 h2 h3 h4 =>
        rw [keys_pl h4] at h1
        refine ⟨a, lookT kvs k, lookD q.2 (tkD k), rfl, .inr ⟨kvs, k, _, _, hr, TP.keys Rl.sub hkv, rfl, Rl.sub.tup h1, rfl⟩, ?_, p2⟩
        rcases TP.look hkv (k := k) with ⟨h1, h2⟩ | ⟨d, u, h1, h2, h3⟩
        · exact .inl ⟨h1, h2⟩
        · exact .inr ⟨d, u, h1, h2, h3⟩
end
section
variable {Γ : Gc} {X : Cx} {k : Nat} {a b c e : Expr} {es rest : List Expr} {pos p p2 apos cpos : Pos} {Fa Fb Fc : Env → M Val} {Fs : Env → M (List Val)} {i j : Nat} {x : Str} {l : Pos}
theorem room1 {k : Nat} {A : Around} (hr : Room k A) : A.units + 1 < cLine := room_le hr (by omega)
/-! ### d[k], k in d -/
theorem pe_dgetF {o i : Expr} {td ty : TE} (hu : X.A.units + 1 < cLine) (ho : PE X o td) (hi : PE X i ty) (hs : NoSl i) : PE X (.Subscript o i pos) (fun σ H Q => td σ H fun x H1 => ty σ H1 fun y H2 => ∃ a v, x = .ref a ∧ DAt X H2 a y (some v) ∧ Q v H2) := by
  refine ⟨fun pins s σ H Q I h => ?_⟩
  refine subD_of PySem.F.slot_dict_getitem.lookup hs (thn (ho.run pins s σ H _ I h) fun u s1 ⟨x, H1, I1, rx, q1⟩ => thn (hi.run pins s1 σ H1 _ I1 q1) fun iv s2 ⟨y, H2, I2, ry, a, v, ex, g, q2⟩ => ?_)
  subst ex
  cases ref_of rx
  exact ⟨g.typeIs I2, D_getItem hu I2 g ry fun w' s3 I3 rw' => ⟨v, H2, I3, rw', q2⟩⟩
theorem no_sl (h : isSlice b = false) : NoSl b := by
  intro o i
  cases b <;> first | rfl | cases h
theorem de_dsub (hr : Room k X.A) (ha : DE Γ X a Fa) (hb : DE Γ X b Fb) (h : isSlice b = false) : DE Γ X (.Subscript a b pos) (fun ε => M.bind (Fa ε) fun v => M.bind (Fb ε) fun k => M.bind (dat k) fun k => subD v k) := fun Wx tk =>
  (pe_dgetF (room1 hr) (ha Wx tk) (hb Wx tk) (no_sl h)).imp fun σ H Q ⟨W, ε, st, rel, env, post⟩ => tG_of rel env post fun v x W1 H1 st1 e1 x1 rel1 env1 r1 p1 => tG_of rel1 env1 p1 fun u y W2 H2 st2 e2 x2 rel2 env2 r2 p2 => by
    obtain ⟨kd, rfl, p3⟩ := post_dat p2
    obtain ⟨a, z, o, rfl, g, h, p4⟩ := post_ask rel2 (r1.ext rel1 x2) r2 p3
    rcases h with ⟨rfl, rfl⟩ | ⟨d, w, rfl, rfl, hp⟩
    · exact p4.elim
    · exact ⟨a, w, rfl, g, fin_d p4 rel2 (.pl hp)⟩
def dinF (neg : Bool) (v w : Val) : M Val := M.bind (dat v) fun k => M.bind (askD w k) fun o => bool (if neg then !o.isSome else o.isSome)
theorem din_k {neg : Bool} {Wx : WX} {σ : L2.St} {H : Hp} {Q : VK} (h : tE Γ X (fun ε => M.bind (Fa ε) fun v => M.bind (Fb ε) fun w => dinF neg v w) Wx σ H Q) :
    tE Γ X Fa Wx σ H fun y H1 => tE Γ X Fb Wx σ H1 fun x H2 => ∃ a z, x = .ref a ∧ DAt X H2 a y z ∧ Q (.bl (if neg then !z.isSome else z.isSome)) H2 := by
  obtain ⟨W, ε, st, rel, env, post⟩ := h
  refine tG_of rel env post fun v x W1 H1 st1 e1 x1 rel1 env1 r1 p1 => tG_of rel1 env1 p1 fun u y W2 H2 st2 e2 x2 rel2 env2 r2 p2 => ?_
  obtain ⟨kd, rfl, p3⟩ := post_dat p2
  obtain ⟨a, z, o, rfl, g, h, p4⟩ := post_ask rel2 r2 (r1.ext rel1 x2) p3
  refine ⟨a, z, rfl, g, ?_⟩
  rcases h with ⟨rfl, rfl⟩ | ⟨d, w, rfl, rfl, hp⟩
  · exact fin_d p4 rel2 (.pl (.bl _))
  · exact fin_d p4 rel2 (.pl (.bl _))
theorem pc_dinF {o i : Expr} {td ty : TE} (hu : X.A.units + 1 < cLine) (hi : PE X i ty) (ho : PE X o td) : PC X .In i o (fun σ H Q => ty σ H fun y H1 => td σ H1 fun x H2 => ∃ a z, x = .ref a ∧ DAt X H2 a y z ∧ Q (.bl z.isSome) H2) := by
  refine ⟨fun pins s σ H Q I h => ?_⟩
  refine thn (hi.run pins s σ H _ I h) fun iv s1 ⟨y, H1, I1, ry, q1⟩ => thn (ho.run pins s1 σ H1 _ I1 q1) fun u s2 ⟨x, H2, I2, rx, a, ov, ex, g, q2⟩ => ?_
  subst ex
  cases ref_of rx
  exact D_in hu I2 g ry fun s3 I3 => ⟨.bl ov.isSome, H2, I3, rfl, q2⟩
theorem pc_dniF {o i : Expr} {td ty : TE} (hu : X.A.units + 1 < cLine) (hi : PE X i ty) (ho : PE X o td) : PC X .NotIn i o (fun σ H Q => ty σ H fun y H1 => td σ H1 fun x H2 => ∃ a z, x = .ref a ∧ DAt X H2 a y z ∧ Q (.bl (!z.isSome)) H2) := by
  refine ⟨fun pins s σ H Q I h => ?_⟩
  refine thn (hi.run pins s σ H _ I h) fun iv s1 ⟨y, H1, I1, ry, q1⟩ => thn (ho.run pins s1 σ H1 _ I1 q1) fun u s2 ⟨x, H2, I2, rx, a, ov, ex, g, q2⟩ => ?_
  subst ex
  cases ref_of rx
  exact D_notIn hu I2 g ry fun s3 I3 => ⟨.bl (!ov.isSome), H2, I3, rfl, q2⟩
theorem de_din (hr : Room k X.A) (ha : DE Γ X a Fa) (hb : DE Γ X b Fb) (h1 : behindInMarks .In b = false) : DE Γ X (.Compare a [.In] [b] pos) (fun ε => M.bind (Fa ε) fun v => M.bind (Fb ε) fun w => dinF false v w) := fun Wx tk =>
  (pe_cmp (pc_dinF (room1 hr) (ha Wx tk) (hb Wx tk)) h1).imp fun σ H Q h => din_k h
theorem de_dni (hr : Room k X.A) (ha : DE Γ X a Fa) (hb : DE Γ X b Fb) (h1 : behindInMarks .NotIn b = false) : DE Γ X (.Compare a [.NotIn] [b] pos) (fun ε => M.bind (Fa ε) fun v => M.bind (Fb ε) fun w => dinF true v w) := fun Wx tk =>
  (pe_cmp (pc_dniF (room1 hr) (ha Wx tk) (hb Wx tk)) h1).imp fun σ H Q h => din_k h
theorem dt_din (hr : Room k X.A) (ha : DE Γ X a Fa) (hb : DE Γ X b Fb) (h1 : behindInMarks .In b = false) : DT Γ X (.Compare a [.In] [b] pos) (tst fun ε => M.bind (Fa ε) fun v => M.bind (Fb ε) fun w => dinF false v w) := fun Wx tk =>
  (pt_cmp (pc_dinF (room1 hr) (ha Wx tk) (hb Wx tk)) h1).imp fun σ H Q h => din_k (tst_tE h)
theorem dt_dni (hr : Room k X.A) (ha : DE Γ X a Fa) (hb : DE Γ X b Fb) (h1 : behindInMarks .NotIn b = false) : DT Γ X (.Compare a [.NotIn] [b] pos) (tst fun ε => M.bind (Fa ε) fun v => M.bind (Fb ε) fun w => dinF true v w) := fun Wx tk =>
  (pt_cmp (pc_dniF (room1 hr) (ha Wx tk) (hb Wx tk)) h1).imp fun σ H Q h => din_k (tst_tE h)
/-! ### {} -/
theorem de_dnewK : DE Γ X (.Dict [] [] pos) (fun _ => alloc (.dct false [])) := fun Wx tk =>
  pe_dnewK.imp fun σ H Q ⟨W, ε, st, rel, env, post⟩ p hp => fin_cell post rel hp ⟨[], rfl, .nil⟩ (fun z => by cases z)
theorem pe_dnewF : PE X (.Dict [] [] pos) (fun _ H Q => ∀ p, H p = none → Q (.ref p) (upd H p (TD (kp X) p []))) := ⟨fun pins s σ H Q I h => by
  refine wpAny_Dict_empty ⟨.ref s.heap.objs.size, _, I.laid (a := s.heap.objs.size) (o := TD (kp X) s.heap.objs.size []) (t' := s.toks) (fun _ _ q => Heap.get?_push_of_some _ q) (Nat.le_refl _) ?_, rfl, h _ I.fresh⟩
  refine td_ok (xs := []) (Nat.zero_le _) (beq_eq_false_iff_ne.mpr (Ne.symm (Nat.ne_of_lt I.big))) .nil ⟨_, #[], 0, Heap.get?_push_size _ rfl, ⟨rfl, rfl, rfl⟩, rfl, rfl, fun _ h => ?_, List.nodup_nil⟩
  cases h⟩
theorem de_dnewT : DE Γ X (.Dict [] [] pos) (fun _ => alloc (.dct true [])) := fun Wx tk =>
  pe_dnewF.imp fun σ H Q ⟨W, ε, st, rel, env, post⟩ p hp => fin_cell post rel hp ⟨[], rfl, .nil⟩ (fun z => by cases z)
/-! ### methods -/
def rMx (Γ : Gc) (X : Cx) (m : Me) (x : Val) : V → List V → Hp → VK → Prop := fun v vs H Q => ∃ σ Wx W st xs, Rel Γ.T (kp X) W H st ∧ RVs Γ X σ W H st.length v x ∧ RVl Γ X σ W H st.length vs xs ∧ Post Γ X (RVs Γ X σ) σ Wx W H st (meV m x xs st) Q
/-- the receiver of a method is of a type that has it -/
def RcvOk (Γ : Gc) (X : Cx) (m : Me) (nm : Str) : Prop := ∀ (P : L2.St → Prop) (v : V) (x : Val) (W : Wd) (H : Hp) (st st' : Sto), Rel Γ.T (kp X) W H st → RV Γ X P W H st.length v x → rcvV m x st = .ok () st' → st' = st ∧ ∃ T id, PlainAttrs T ∧ Slot T nm id ∧ typeOf (.builtin id) = pure (.type "method_descriptor") ∧
  (∀ pins σ s u, Inv X pins σ H s → RelV v u → s.TypeIs u T ∧ ∀ a, u = .ref a → ∃ ob, s.heap.get? a = some ob ∧ ob.dict = none) ∧ MtR X id (rMx Γ X m x)
def okBase (o : Expr) : Bool := match o with
  | .Call (.Name _ _) [] [] _ => false
  | _ => true
theorem base_ok {o : Expr} (h : okBase o = true) (nm : Str) (env : PySem.Env) (wh : Sem Value) : attributeBase o nm env wh = wh := by
  cases o with
  | Call f args kws q =>
    cases f with
    | Name id q2 =>
      cases args with
      | nil =>
        cases kws with
        | nil => cases h
        | cons _ _ => rfl
      | cons _ _ => rfl
    | _ => rfl
  | _ => rfl
theorem few_ok {env : PySem.Env} {es : List Expr} (h : unstars es = true) (hl : es.length < 20) : ((backTo pos (starEach es env)).all (fun x => !x.1) && (backToKw pos (keywordEach [] env)).all (fun x => x.1.isSome)
      && decide (es.length + ([] : List Keyword).length + (if ([] : List Keyword).isEmpty then 0 else 1) < 30)) = true := by
  have h1 : (backTo pos (starEach es env)).all (fun x => !x.1) = true := by
    have := star_none (pos := pos) (env := env) h
    rw [List.all_eq_true]
    intro x hx
    rw [List.any_eq_false] at this
    simpa using this x hx
  rw [h1]
  show (true && (true : Bool) && decide (es.length + 0 + 0 < 30)) = true
  simp
  omega
theorem de_me {m : Me} {nm : Str} (hm : RcvOk Γ X m nm) (ha : DE Γ X a Fa) (hs : DA Γ X (e :: es) Fs) (h1 : okBase a = true) (h2 : unstars (e :: es) = true) (h3 : (e :: es).length < 20) (h4 : (apos.endLine == cpos.line) = true) :
    DE Γ X (.Call (.Attribute a nm apos) (e :: es) [] cpos) (fun ε => M.bind (Fa ε) fun v => M.bind (rcvV m v) fun _ => M.bind (Fs ε) fun vs => meV m v vs) := fun Wx tk => by
  refine ⟨fun pins s σ H Q I ⟨W, ε, st, rel, env, post⟩ => ?_⟩
  refine wpAny_Call_method_late (base_ok h1 _ _ _) (few_ok h2 h3) h4 rfl (thn ((ha Wx tk).run pins s σ H (fun v H1 => ∃ x W1 st1, Rel Γ.T (kp X) W1 H1 st1 ∧ EnvR Γ X W1 H1 st1.length σ ε ∧ RVs Γ X σ W1 H1 st1.length v x ∧ Post Γ X (RVs Γ X σ) σ Wx W1 H1 st1 (M.bind (rcvV m x) (fun _ => M.bind (Fs ε) fun vs => meV m x vs) st1) Q) I
    (tG_of rel env post fun v x W1 H1 st1 e1 x1 rel1 env1 r1 p1 => ⟨x, W1, st1, rel1, env1, r1, p1⟩)) fun u s1 ⟨v, H1, I1, ru, x, W1, st1, rel1, env1, r1, p1⟩ => ?_)
  unfold M.bind at p1
  cases er : rcvV m x st1 with
  | ok q st2 =>
    rw [er] at p1
    obtain ⟨rfl, T, id, k1, k2, k3, k4, k5⟩ := hm _ v x W1 H1 st1 st2 rel1 r1 er
    obtain ⟨t1, t2⟩ := k4 pins σ s1 u I1 ru
    refine ⟨T, id, k1, k2, k3, t1, t2, ?_⟩
    have p2 : Post Γ X (RVs Γ X σ) σ Wx W1 H1 st2 (M.bind (Fs ε) (fun vs => meV m x vs) st2) Q := p1
    have hA := (hs Wx tk).run cpos pins s1 σ H1 (fun vs H2 => rMx Γ X m x v vs H2 Q) I1 (tG_of rel1 env1 p2 fun vs ys W2 H2 st3 e2 x2 rel2 env2 r2 p3 => ⟨σ, Wx, W2, st3, ys, rel2, r1.ext rel1 x2, r2, p3⟩)
    unfold unstars at h2
    rw [List.all_cons, Bool.and_eq_true] at h2
    rw [star_cons h2.1] at hA ⊢
    refine Calls.callWith_builtin (by show (false || (backTo cpos (starEach es X.env)).any (·.1)) = false; rw [star_none h2.2] <;> rfl) (Calls.evalArgs_plain ?_)
    exact thn hA fun us s2 ⟨vs, H2, I2, r2, q2⟩ => k5 pins s2 σ H2 v vs u us Q I2 ru r2 q2
  | err ex st2 =>
    exfalso
    unfold rcvV at er
    split at er <;> first | cases er | (split at er <;> cases er)
  | bad => rw [er] at p1; exact p1.elim
end
end Fx

set_option Elab.async false
set_option linter.all false
set_option maxRecDepth 100000
set_option maxHeartbeats 4000000
/-! Fx17: the methods of lists, tuples, dicts. -/
namespace Fx
open PySem PySem.Spec PyProof.Rows L2 NdefX LamX
section
variable {Γ : Gc} {X : Cx} {k : Nat} {P : L2.St → Prop} {σ : L2.St} {Wx : WX} {W : Wd} {H : Hp} {st st' : Sto} {x : Val} {v : V} {l : Nat} {xs : List PyData}
theorem vw_o {d : PyData} (h : vw (.o l) st = .ok d st') : ∃ xs, d = .list xs ∧ st[l]? = some (.lst xs) := by
  unfold vw at h
  cases e : st[l]? with
  | none => simp only [e] at h; cases h
  | some c =>
    cases c with
    | lst xs => simp only [e] at h; cases h; exact ⟨xs, rfl, rfl⟩
    | _ => simp only [e] at h; cases h
theorem cel_lst (R : Rel Γ.T (kp X) W H st) (h : st[l]? = some (.lst xs)) : ∃ vs, H (W.ρ l) = some (.lst vs) ∧ vs.length ≤ sizeLine ∧ PlA (kp X) W.Hs vs xs := by
  obtain ⟨_, o, e2, vs, rfl, hz, q⟩ := R.cel l _ h (by intro z; cases z)
  exact ⟨vs, e2, hz, q⟩
theorem live_of {c : Cel} (h : st[l]? = some c) (hc : c ≠ .dead) : live st l := ⟨c, h, hc⟩
/-- a thing of the store is written -/
theorem fin_write {σ : L2.St} {α β : Type} {Rr : Rl α β} {Q : β → Hp → Prop} {a : α} {b : β} {c c' : Cel} {o : HO} (p : Post Γ X Rr σ Wx W H st (.ok a (st.set l c')) Q) (R : Rel Γ.T (kp X) W H st) (h : st[l]? = some c) (hc : c ≠ .dead) (q : CelR (kp X) W.Hs (W.ρ l) o c') (hc' : c' ≠ .dead)
    (r : ∀ n, Rr W (upd H (W.ρ l) o) n b a) : Q b (upd H (W.ρ l) o) := p b W _ (Ext.write R (live_of h hc) q hc') (R.write (live_of h hc) q hc') (r _)
theorem ty_list {pins : List (Addr × PySem.Obj)} {s : Shared} {u : Value} {a : Addr} {vs : List V} (I : Inv X pins σ H s) (h : Rd H a (.lst vs)) (r : RelV (.ref a) u) : s.TypeIs u "list" ∧ ∀ a, u = .ref a → ∃ ob, s.heap.get? a = some ob ∧ ob.dict = none :=
  tyV_is I r (.inl ⟨rfl, vs, .inl h⟩)
theorem ty_tup {pins : List (Addr × PySem.Obj)} {s : Shared} {u : Value} {a : Addr} {o : PySem.Obj} {vs : List V} (I : Inv X pins σ H s) (h : H a = some (.frz o (.tup vs))) (hn : o.dict = none) (r : RelV (.ref a) u) : s.TypeIs u "tuple" ∧ ∀ a, u = .ref a → ∃ ob, s.heap.get? a = some ob ∧ ob.dict = none := by
  cases ref_of r
  obtain ⟨h1, _, its, r, o2, h2, h3, _⟩ := I.hok a _ h
  rw [h1] at h2
  cases h2
  exact ⟨⟨o, h1, h3⟩, fun b e => by cases e; exact ⟨o, h1, hn⟩⟩
/-! ### append -/
theorem rcv_append : RcvOk Γ X .append "append" := by
  intro P v x W H st st' R r h
  cases x with
  | o l =>
    have h : (match st[l]? with
      | some (.lst _) => Out.ok () st
      | _ => .bad) = .ok () st' := h
    cases e : st[l]? with
    | none => simp only [e] at h; cases h
    | some c =>
      cases c with
      | lst xs =>
        simp only [e] at h
        cases h
        obtain ⟨vs, h1, hz, q⟩ := cel_lst R e
        obtain ⟨_, rfl⟩ := r
        refine ⟨rfl, "list", "list.append", F.plainAttrs_list, F.slot_list_append, F.type_list_append, fun pins σ s u I ru => ty_list I (.of h1) ru, ?_⟩
        intro pins s σ H v vs u us Q I rv rs ⟨σ', Wx, W, st, ys, R, r1, r2, p0⟩
        match ys, r2, p0 with
        | [w], r2, p0 =>
          obtain ⟨y, rfl, ry⟩ := one_of r2
          obtain ⟨d, rfl, hd, p1⟩ := post_datP p0
          obtain ⟨dd, ed, p2⟩ := post_vw p1
          obtain ⟨xs, rfl, el⟩ := vw_o ed
          obtain ⟨ws, h2, hz2, q2⟩ := cel_lst R el
          obtain ⟨_, rfl⟩ := r1
          have p2 : Post Γ X (RVs Γ X σ') σ' Wx W H st ((if xs.length < sizeLine then M.bind (setO l (.lst (xs ++ [d]))) fun _ => M.pure (.d .none) else M.bad) st) Q := p2
          by_cases hl : xs.length < sizeLine
          · rw [if_pos hl] at p2
            have hl' : ws.length < sizeLine := by rw [q2.length]; exact hl
            exact mt_append pins s σ H _ _ u us Q I rv rs ⟨W.ρ l, ws, y, rfl, rfl, h2, hl', fin_write p2 R el (fun z => by cases z) ⟨_, rfl, by rw [List.length_append]; exact hl', q2.append (.cons (Rp.plain ry hd) .nil)⟩ (fun z => by cases z) fun _ => .pl .non⟩
          · rw [if_neg hl] at p2; exact p2.elim
        | [], _, p0 => exact p0.elim
        | _ :: _ :: _, _, p0 => exact p0.elim
      | _ => simp only [e] at h; cases h
  | _ => cases h
/-! ### count, index -/
theorem plainA {K : Pw} {vs : List V} (h : PlA K H vs xs) : PyData.plainAll xs = true := by
  have := PyData.plain_of_canLay0 (.list xs) (by simpa only [PyData.canLay0] using PlA.lay _ _ h)
  simpa only [PyData.plain] using this
theorem rds_all {pins : List (Addr × PySem.Obj)} {s : Shared} {vs : List V} {us : List Value} (I : Inv X pins σ H s) (h : PlA (kp X) H vs xs) (r : Vals vs us) : ∃ as, ReadsAll s.heap us xs as := Dp.readsAll (X := X) I _ _ _ (PlA.dp _ _ h) r
theorem depth_min {A : Around} (hr : Room k A) {d : PyData} (hd : d.depth ≤ 60) : A.units + 1 + min (PyData.depthAll xs) d.depth < cLine := by
  have := hr.un
  have := Nat.min_le_right (PyData.depthAll xs) d.depth
  omega
theorem find_ok {d : PyData} (h : findOk d = true) : isDct d = false ∧ d.depth ≤ 60 := by
  unfold findOk at h
  simpa only [Bool.and_eq_true, Bool.not_eq_true', decide_eq_true_eq] using h
theorem mt_countL (hr : Room k X.A) : MtR X "list.count" (fun v vs H Q => ∃ a ws y d xs, v = .ref a ∧ vs = [y] ∧ Rd H a (.lst ws) ∧ PlA (kp X) H ws xs ∧ Pl (kp X) H y d ∧ d.depth ≤ 60 ∧ Q (.int (xs.countP fun z => PyData.eqv z d : Nat)) H) := by
  intro pins s σ H v vs u us Q I rv rs ⟨a, ws, y, d, xs, e1, e2, h1, h2, h3, h4, q⟩
  subst e1 e2
  cases ref_of rv
  obtain ⟨uy, rfl, ry⟩ := vals1 rs
  obtain ⟨its, rr, hl, _⟩ := I.list (.inl h1)
  obtain ⟨as, rd⟩ := rds_all I h2 rr
  obtain ⟨bs, rx⟩ := pl_reads I h3 ry
  exact SeqAt.count_list_data hl.isList (by simpa using rd) rx (plainA h2) (PyData.plain_of_canLay0 d (Pl.lay _ _ h3)) (depth_min hr h4) ⟨.int _, H, I.tok _, ⟨_, rfl⟩, q⟩
theorem mt_countT (hr : Room k X.A) : MtR X "tuple.count" (fun v vs H Q => ∃ a o ws y d xs, v = .ref a ∧ vs = [y] ∧ H a = some (.frz o (.tup ws)) ∧ PlA (kp X) H ws xs ∧ Pl (kp X) H y d ∧ d.depth ≤ 60 ∧ Q (.int (xs.countP fun z => PyData.eqv z d : Nat)) H) := by
  intro pins s σ H v vs u us Q I rv rs ⟨a, o, ws, y, d, xs, e1, e2, h1, h2, h3, h4, q⟩
  subst e1 e2
  cases ref_of rv
  obtain ⟨uy, rfl, ry⟩ := vals1 rs
  obtain ⟨its, rr, hl, _⟩ := I.tuple (.inl (.inr ⟨_, h1⟩))
  obtain ⟨as, rd⟩ := rds_all I h2 rr
  obtain ⟨bs, rx⟩ := pl_reads I h3 ry
  exact SeqAt.count_tuple_data hl (by simpa using rd) rx (plainA h2) (PyData.plain_of_canLay0 d (Pl.lay _ _ h3)) (depth_min hr h4) ⟨.int _, H, I.tok _, ⟨_, rfl⟩, q⟩
theorem mt_indexL (hr : Room k X.A) : MtR X "list.index" (fun v vs H Q => ∃ a ws y d xs j, v = .ref a ∧ vs = [y] ∧ Rd H a (.lst ws) ∧ PlA (kp X) H ws xs ∧ Pl (kp X) H y d ∧ d.depth ≤ 60 ∧ SeqAt.dataPlace xs d = some j ∧ Q (.int (j : Nat)) H) := by
  intro pins s σ H v vs u us Q I rv rs ⟨a, ws, y, d, xs, j, e1, e2, h1, h2, h3, h4, h5, q⟩
  subst e1 e2
  cases ref_of rv
  obtain ⟨uy, rfl, ry⟩ := vals1 rs
  obtain ⟨its, rr, ⟨⟨cls, dd, data, sl⟩, n, ho, hc, hdn, hd⟩, hz⟩ := I.list (.inl h1)
  simp only at hc hd
  subst hc hd
  obtain ⟨as, rd⟩ := rds_all I h2 rr
  obtain ⟨bs, rx⟩ := pl_reads I h3 ry
  have rd' : ReadsAll s.heap its.toArray.toList xs as := by simpa using rd
  obtain ⟨hj, hit, hno⟩ := SeqAt.hit_at rd' (plainA h2) h5
  have hs := sizeLine_eq
  refine call_meets PySem.F.slot_list_index ⟨_, ho, rfl⟩ PySem.F.entry_list_index (PySem.F.args_list_index_2 _ _) (SeqAt.list_indexAt a its.toArray n dd sl uy _ j hj ?_ hit hno)
    ⟨ho, SeqAt.items_plain rd' rx (plainA h2) (PyData.plain_of_canLay0 d (Pl.lay _ _ h3)) (depth_min hr h4), ⟨.int (j : Nat), H, I.tok _, ⟨_, rfl⟩, q⟩⟩
  have : its.toArray.size = ws.length := by rw [List.size_toArray]; exact rr.length.symm
  omega
theorem mt_indexT (hr : Room k X.A) : MtR X "tuple.index" (fun v vs H Q => ∃ a o ws y d xs j, v = .ref a ∧ vs = [y] ∧ H a = some (.frz o (.tup ws)) ∧ PlA (kp X) H ws xs ∧ Pl (kp X) H y d ∧ d.depth ≤ 60 ∧ SeqAt.dataPlace xs d = some j ∧ Q (.int (j : Nat)) H) := by
  intro pins s σ H v vs u us Q I rv rs ⟨a, o, ws, y, d, xs, j, e1, e2, h1, h2, h3, h4, h5, q⟩
  subst e1 e2
  cases ref_of rv
  obtain ⟨uy, rfl, ry⟩ := vals1 rs
  obtain ⟨its, rr, ⟨⟨cls, dd, data, sl⟩, ho, hc, n, hd⟩, hz⟩ := I.tuple (.inl (.inr ⟨_, h1⟩))
  simp only at hc hd
  subst hc hd
  obtain ⟨as, rd⟩ := rds_all I h2 rr
  obtain ⟨bs, rx⟩ := pl_reads I h3 ry
  have rd' : ReadsAll s.heap its.toArray.toList xs as := by simpa using rd
  obtain ⟨hj, hit, hno⟩ := SeqAt.hit_at rd' (plainA h2) h5
  exact call_meets PySem.F.slot_tuple_index ⟨_, ho, rfl⟩ PySem.F.entry_tuple_index (PySem.F.args_tuple_index_2 _ _) (TI.tuple_indexAt a its.toArray n dd sl uy _ j hj hit hno)
    ⟨ho, SeqAt.items_plain rd' rx (plainA h2) (PyData.plain_of_canLay0 d (Pl.lay _ _ h3)) (depth_min hr h4), ⟨.int (j : Nat), H, I.tok _, ⟨_, rfl⟩, q⟩⟩
theorem rcv_count (hr : Room k X.A) : RcvOk Γ X .count "count" := by
  intro P v x W H st st' R r h
  have step : ∀ (T id : String), PlainAttrs T → Slot T "count" id → typeOf (.builtin id) = pure (.type "method_descriptor") → (∀ pins σ s u, Inv X pins σ H s → RelV v u → s.TypeIs u T ∧ ∀ a, u = .ref a → ∃ ob, s.heap.get? a = some ob ∧ ob.dict = none) → MtR X id (rMx Γ X .count x) → st' = st →
      st' = st ∧ ∃ T id, PlainAttrs T ∧ Slot T "count" id ∧ typeOf (.builtin id) = pure (.type "method_descriptor") ∧ (∀ pins σ s u, Inv X pins σ H s → RelV v u → s.TypeIs u T ∧ ∀ a, u = .ref a → ∃ ob, s.heap.get? a = some ob ∧ ob.dict = none) ∧ MtR X id (rMx Γ X .count x) := fun T id a b c d e f => ⟨f, T, id, a, b, c, d, e⟩
  have lst : (∀ st d, vw x st = .ok d st → ∃ xs, d = .list xs) → MtR X "list.count" (rMx Γ X .count x) := by
    intro hx pins s σ H v vs u us Q I rv rs ⟨σ', Wx, W, st, ys, R, r1, r2, p0⟩
    match ys, r2, p0 with
    | [w], r2, p0 =>
      obtain ⟨y, rfl, ry⟩ := one_of r2
      obtain ⟨d, rfl, p1⟩ := post_dat p0
      obtain ⟨dd, ed, p2⟩ := post_vw p1
      obtain ⟨xs, rfl⟩ := hx _ _ ed
      obtain ⟨a, ws, rfl, h1, hz, q⟩ := vw_list R r1 ed
      have p2 : Post Γ X (RVs Γ X σ') σ' Wx W H st ((if findOk d then int (xs.countP fun z => PyData.eqv z d : Nat) else M.bad) st) Q := p2
      by_cases hf : findOk d = true
      · rw [if_pos hf] at p2
        exact mt_countL hr pins s σ H _ _ u us Q I rv rs ⟨a, ws, y, d, xs, rfl, rfl, h1, PlA.sub R.sub _ _ q, pl_dat R ry (find_ok hf).1, (find_ok hf).2, fin_d p2 R (.pl (.int _))⟩
      · rw [if_neg hf] at p2; exact p2.elim
    | [], _, p0 => exact p0.elim
    | _ :: _ :: _, _, p0 => exact p0.elim
  have tup : (∀ st d, vw x st = .ok d st → ∃ xs, d = .tuple xs) → MtR X "tuple.count" (rMx Γ X .count x) := by
    intro hx pins s σ H v vs u us Q I rv rs ⟨σ', Wx, W, st, ys, R, r1, r2, p0⟩
    match ys, r2, p0 with
    | [w], r2, p0 =>
      obtain ⟨y, rfl, ry⟩ := one_of r2
      obtain ⟨d, rfl, p1⟩ := post_dat p0
      obtain ⟨dd, ed, p2⟩ := post_vw p1
      obtain ⟨xs, rfl⟩ := hx _ _ ed
      obtain ⟨a, o, ws, rfl, h1, hn, hz, q⟩ := vw_tup R r1 ed
      have p2 : Post Γ X (RVs Γ X σ') σ' Wx W H st ((if findOk d then int (xs.countP fun z => PyData.eqv z d : Nat) else M.bad) st) Q := p2
      by_cases hf : findOk d = true
      · rw [if_pos hf] at p2
        exact mt_countT hr pins s σ H _ _ u us Q I rv rs ⟨a, o, ws, y, d, xs, rfl, rfl, h1, PlA.sub R.sub _ _ q, pl_dat R ry (find_ok hf).1, (find_ok hf).2, fin_d p2 R (.pl (.int _))⟩
      · rw [if_neg hf] at p2; exact p2.elim
    | [], _, p0 => exact p0.elim
    | _ :: _ :: _, _, p0 => exact p0.elim
  cases x with
  | o l =>
    have h : (match st[l]? with
      | some (.lst _) => Out.ok () st
      | _ => .bad) = .ok () st' := h
    cases e : st[l]? with
    | none => simp only [e] at h; cases h
    | some c =>
      cases c with
      | lst xs =>
        simp only [e] at h
        cases h
        obtain ⟨vs, h1, hz, q⟩ := cel_lst R e
        obtain ⟨_, rfl⟩ := r
        exact step "list" "list.count" F.plainAttrs_list F.slot_list_count F.type_list_count (fun pins σ s u I ru => ty_list I (.of h1) ru) (lst fun st d ed => by obtain ⟨xs, e, _⟩ := vw_o ed; exact ⟨xs, e⟩) rfl
      | _ => simp only [e] at h; cases h
  | d z =>
    cases z with
    | list xs =>
      cases h
      cases Rp.plain r rfl with
      | lst h1 h2 h3 => exact step "list" "list.count" F.plainAttrs_list F.slot_list_count F.type_list_count (fun pins σ s u I ru => ty_list I (R.sub.rd (fun _ _ z => by cases z) h1) ru) (lst fun st d ed => by cases ed; exact ⟨_, rfl⟩) rfl
    | tuple xs =>
      cases h
      cases Rp.plain r rfl with
      | tup h1 h2 h3 h4 => exact step "tuple" "tuple.count" F.plainAttrs_tuple F.slot_tuple_count F.type_tuple_count (fun pins σ s u I ru => ty_tup I (R.sub.tup h1) h2 ru) (tup fun st d ed => by cases ed; exact ⟨_, rfl⟩) rfl
    | _ => cases h
  | _ => cases h
theorem rcv_index (hr : Room k X.A) : RcvOk Γ X .index "index" := by
  intro P v x W H st st' R r h
  have step : ∀ (T id : String), PlainAttrs T → Slot T "index" id → typeOf (.builtin id) = pure (.type "method_descriptor") → (∀ pins σ s u, Inv X pins σ H s → RelV v u → s.TypeIs u T ∧ ∀ a, u = .ref a → ∃ ob, s.heap.get? a = some ob ∧ ob.dict = none) → MtR X id (rMx Γ X .index x) → st' = st →
      st' = st ∧ ∃ T id, PlainAttrs T ∧ Slot T "index" id ∧ typeOf (.builtin id) = pure (.type "method_descriptor") ∧ (∀ pins σ s u, Inv X pins σ H s → RelV v u → s.TypeIs u T ∧ ∀ a, u = .ref a → ∃ ob, s.heap.get? a = some ob ∧ ob.dict = none) ∧ MtR X id (rMx Γ X .index x) := fun T id a b c d e f => ⟨f, T, id, a, b, c, d, e⟩
  have lst : (∀ st d, vw x st = .ok d st → ∃ xs, d = .list xs) → MtR X "list.index" (rMx Γ X .index x) := by
    intro hx pins s σ H v vs u us Q I rv rs ⟨σ', Wx, W, st, ys, R, r1, r2, p0⟩
    match ys, r2, p0 with
    | [w], r2, p0 =>
      obtain ⟨y, rfl, ry⟩ := one_of r2
      obtain ⟨d, rfl, p1⟩ := post_dat p0
      obtain ⟨dd, ed, p2⟩ := post_vw p1
      obtain ⟨xs, rfl⟩ := hx _ _ ed
      obtain ⟨a, ws, rfl, h1, hz, q⟩ := vw_list R r1 ed
      have p2 : Post Γ X (RVs Γ X σ') σ' Wx W H st ((if findOk d then (match SeqAt.dataPlace xs d with
        | some i => int i
        | none => M.bad) else M.bad) st) Q := p2
      by_cases hf : findOk d = true
      · rw [if_pos hf] at p2
        cases ei : SeqAt.dataPlace xs d with
        | none => simp only [ei] at p2; exact p2.elim
        | some j =>
          simp only [ei] at p2
          exact mt_indexL hr pins s σ H _ _ u us Q I rv rs ⟨a, ws, y, d, xs, j, rfl, rfl, h1, PlA.sub R.sub _ _ q, pl_dat R ry (find_ok hf).1, (find_ok hf).2, ei, fin_d p2 R (.pl (.int _))⟩
      · rw [if_neg hf] at p2; exact p2.elim
    | [], _, p0 => exact p0.elim
    | _ :: _ :: _, _, p0 => exact p0.elim
  have tup : (∀ st d, vw x st = .ok d st → ∃ xs, d = .tuple xs) → MtR X "tuple.index" (rMx Γ X .index x) := by
    intro hx pins s σ H v vs u us Q I rv rs ⟨σ', Wx, W, st, ys, R, r1, r2, p0⟩
    match ys, r2, p0 with
    | [w], r2, p0 =>
      obtain ⟨y, rfl, ry⟩ := one_of r2
      obtain ⟨d, rfl, p1⟩ := post_dat p0
      obtain ⟨dd, ed, p2⟩ := post_vw p1
      obtain ⟨xs, rfl⟩ := hx _ _ ed
      obtain ⟨a, o, ws, rfl, h1, hn, hz, q⟩ := vw_tup R r1 ed
      have p2 : Post Γ X (RVs Γ X σ') σ' Wx W H st ((if findOk d then (match SeqAt.dataPlace xs d with
        | some i => int i
        | none => M.bad) else M.bad) st) Q := p2
      by_cases hf : findOk d = true
      · rw [if_pos hf] at p2
        cases ei : SeqAt.dataPlace xs d with
        | none => simp only [ei] at p2; exact p2.elim
        | some j =>
          simp only [ei] at p2
          exact mt_indexT hr pins s σ H _ _ u us Q I rv rs ⟨a, o, ws, y, d, xs, j, rfl, rfl, h1, PlA.sub R.sub _ _ q, pl_dat R ry (find_ok hf).1, (find_ok hf).2, ei, fin_d p2 R (.pl (.int _))⟩
      · rw [if_neg hf] at p2; exact p2.elim
    | [], _, p0 => exact p0.elim
    | _ :: _ :: _, _, p0 => exact p0.elim
  cases x with
  | o l =>
    have h : (match st[l]? with
      | some (.lst _) => Out.ok () st
      | _ => .bad) = .ok () st' := h
    cases e : st[l]? with
    | none => simp only [e] at h; cases h
    | some c =>
      cases c with
      | lst xs =>
        simp only [e] at h
        cases h
        obtain ⟨vs, h1, hz, q⟩ := cel_lst R e
        obtain ⟨_, rfl⟩ := r
        exact step "list" "list.index" F.plainAttrs_list F.slot_list_index F.type_list_index (fun pins σ s u I ru => ty_list I (.of h1) ru) (lst fun st d ed => by obtain ⟨xs, e, _⟩ := vw_o ed; exact ⟨xs, e⟩) rfl
      | _ => simp only [e] at h; cases h
  | d z =>
    cases z with
    | list xs =>
      cases h
      cases Rp.plain r rfl with
      | lst h1 h2 h3 => exact step "list" "list.index" F.plainAttrs_list F.slot_list_index F.type_list_index (fun pins σ s u I ru => ty_list I (R.sub.rd (fun _ _ z => by cases z) h1) ru) (lst fun st d ed => by cases ed; exact ⟨_, rfl⟩) rfl
    | tuple xs =>
      cases h
      cases Rp.plain r rfl with
      | tup h1 h2 h3 h4 => exact step "tuple" "tuple.index" F.plainAttrs_tuple F.slot_tuple_index F.type_tuple_index (fun pins σ s u I ru => ty_tup I (R.sub.tup h1) h2 ru) (tup fun st d ed => by cases ed; exact ⟨_, rfl⟩) rfl
    | _ => cases h
  | _ => cases h
/-! ### get -/
theorem mt_get (hr : Room k X.A) {x : Val} : MtR X "dict.get" (rMx Γ X .get x) := by
  intro pins s σ H v vs u us Q I rv rs ⟨σ', Wx, W, st, ys, R, r1, r2, p0⟩
  match ys, r2, p0 with
  | [w], r2, p0 =>
    obtain ⟨y, rfl, ry⟩ := one_of r2
    obtain ⟨kd, rfl, p1⟩ := post_dat p0
    obtain ⟨a, z, o, rfl, g, h, p2⟩ := post_ask R r1 ry p1
    cases ref_of rv
    obtain ⟨uy, rfl, ru⟩ := vals1 rs
    refine D_get1 (room1 hr) I g ru fun w' s' I' rw' => ⟨_, H, I', rw', ?_⟩
    rcases h with ⟨rfl, rfl⟩ | ⟨d, t, rfl, rfl, hp⟩
    · exact fin_d p2 R (.pl .non)
    · exact fin_d p2 R (.pl hp)
  | [w, w2], r2, p0 =>
    obtain ⟨y, y2, rfl, ry, ry2⟩ := two_of r2
    obtain ⟨kd, rfl, p1⟩ := post_dat p0
    obtain ⟨zd, rfl, p1⟩ := post_dat p1
    obtain ⟨a, z, o, rfl, g, h, p2⟩ := post_ask R r1 ry p1
    cases ref_of rv
    obtain ⟨uy, uz, rfl, ru, ru2⟩ := vals2 rs
    refine D_get2 (room1 hr) I g ru ru2 fun w' s' I' rw' => ⟨_, H, I', rw', ?_⟩
    rcases h with ⟨rfl, rfl⟩ | ⟨d, t, rfl, rfl, hp⟩
    · exact fin_d p2 R ry2
    · exact fin_d p2 R (.pl hp)
  | [], _, p0 => exact p0.elim
  | _ :: _ :: _ :: _, _, p0 => exact p0.elim
theorem rcv_get (hr : Room k X.A) : RcvOk Γ X .get "get" := by
  intro P v x W H st st' R r h
  have key : ∃ q, dctOf x st = .ok q st ∧ st' = st := by
    cases x with
    | d z =>
      cases z with
      | dict ps =>
        cases ps with
        | nil => cases h
        | cons p ps => obtain ⟨a, b⟩ := p; cases h; exact ⟨_, rfl, rfl⟩
      | _ => cases h
    | o l =>
      have h : (match st[l]? with
        | some (.dct _ _) => Out.ok () st
        | _ => .bad) = .ok () st' := h
      cases e : st[l]? with
      | none => simp only [e] at h; cases h
      | some c =>
        cases c with
        | dct tk ps =>
          simp only [e] at h
          cases h
          refine ⟨(tk, ps), ?_, rfl⟩
          unfold dctOf
          simp only [e]
        | _ => simp only [e] at h; cases h
    | _ => cases h
  obtain ⟨q, eq, rfl⟩ := key
  obtain ⟨a, rfl, ha⟩ := dct_at R r eq
  refine ⟨rfl, "dict", "dict.get", F.plainAttrs_dict, F.slot_dict_get, F.type_dict_get, fun pins σ s u I ru => ?_, mt_get hr⟩
  cases ref_of ru
  rcases ha with ⟨_, kvs, e, _⟩ | ⟨_, kvs, e, hk⟩
  · obtain ⟨h1, h2, _⟩ := D_ty I (.inl ⟨_, e⟩)
    exact ⟨h1, h2⟩
  · obtain ⟨h1, h2, _⟩ := D_ty I (.inr ⟨_, e, TP.keys R.sub hk⟩)
    exact ⟨h1, h2⟩
end
end Fx

set_option Elab.async false
set_option linter.all false
set_option maxRecDepth 100000
set_option maxHeartbeats 4000000
/-! Fx18: targets and statements. -/
namespace Fx
open PySem PySem.Spec PyProof.Rows L2 NdefX LamX
/-! ### what is wished of a statement -/
def FlQ (Γ : Gc) (X : Cx) (D : Ends) (W : Wd) (H : Hp) (n : Nat) : Fl → Prop
  | .nx ε => ∀ σ, EnvR Γ X W H n σ ε → D.nx σ H
  | .rt v => ∀ u, SlvR Γ X W H n u (.v v) → D.rt u H
  | .bk ε => ∀ σ, EnvR Γ X W H n σ ε → D.bk σ H
  | .ct ε => ∀ σ, EnvR Γ X W H n σ ε → D.ct σ H
def PostS (Γ : Gc) (X : Cx) (Wx : WX) (W : Wd) (H : Hp) (st : Sto) (o : Out Fl) (D : Ends) : Prop := match o with
  | .ok f st' => ∀ W' H', Ext W H st W' H' st' → Rel Γ.T (kp X) W' H' st' → FlQ Γ X D W' H' st'.length f
  | .err ex st' => ∀ σ cls d W' H', Ext W H st W' H' st' → Rel Γ.T (kp X) W' H' st' → ExR X W' H' cls d ex → Wx cls d σ H'
  | .bad => False
def tSx (Γ : Gc) (X : Cx) (F : Env → M Fl) (Wx : WX) : TS := fun D σ H => ∃ W ε st, Rel Γ.T (kp X) W H st ∧ EnvR Γ X W H st.length σ ε ∧ PostS Γ X Wx W H st (F ε st) D
def DS (Γ : Gc) (X : Cx) (s : Stmt) (F : Env → M Fl) : Prop := ∀ Wx, Takes X Wx → PS X s (tSx Γ X F Wx)
def DSs (Γ : Gc) (X : Cx) (s : List Stmt) (F : Env → M Fl) : Prop := ∀ Wx, Takes X Wx → PSs X s (tSx Γ X F Wx)
def PostG (Γ : Gc) (X : Cx) (Wx : WX) (S : L2.St → Prop) (W : Wd) (H : Hp) (st : Sto) (o : Out Env) (Q : L2.St → Hp → Prop) : Prop := match o with
  | .ok ε st' => ∀ W' H', Ext W H st W' H' st' → Rel Γ.T (kp X) W' H' st' → ∀ σ, EnvR Γ X W' H' st'.length σ ε → S σ → Q σ H'
  | .err ex st' => ∀ σ cls d W' H', Ext W H st W' H' st' → Rel Γ.T (kp X) W' H' st' → ExR X W' H' cls d ex → Wx cls d σ H'
  | .bad => False
/-- σ' is σ but at vs -/
def Sw (vs : List Nat) (σ σ' : L2.St) : Prop := wipe σ' vs = wipe σ vs
/-- a target: one value, plain -/
def DG (Γ : Gc) (X : Cx) (vs : List Nat) (t : Expr) (F : PyData → Env → M Env) : Prop := ∀ Wx, Takes X Wx → PG X t (fun v σ H Q => ∃ W ε st d, Rel Γ.T (kp X) W H st ∧ EnvR Γ X W H st.length σ ε ∧ Pl (kp X) W.Hs v d ∧ PostG Γ X Wx (Sw vs σ) W H st (F d ε st) Q)
def DGs (Γ : Gc) (X : Cx) (vv : List Nat) (ts : List Expr) (F : List PyData → Env → M Env) : Prop := ∀ Wx, Takes X Wx → PGs X ts (fun vs σ H Q => ∃ W ε st ds, Rel Γ.T (kp X) W H st ∧ EnvR Γ X W H st.length σ ε ∧ PlA (kp X) W.Hs vs ds ∧ PostG Γ X Wx (Sw vv σ) W H st (F ds ε st) Q)
/-- a target: a pair that was just made -/
def DG2 (Γ : Gc) (X : Cx) (vv : List Nat) (t : Expr) (F : PyData → Env → M Env) : Prop := ∀ Wx, Takes X Wx → PG X t (fun v σ H Q => ∃ W ε st T vs ds, Rel Γ.T (kp X) W H st ∧ EnvR Γ X W H st.length σ ε ∧ v = .ref T ∧ SqT X.K H T vs ∧ PlA (kp X) W.Hs vs ds ∧ PostG Γ X Wx (Sw vv σ) W H st (F (.tuple ds) ε st) Q)
section
variable {Γ : Gc} {X : Cx} {k : Nat} {Wx : WX} {W W1 : Wd} {H H1 : Hp} {st st1 : Sto} {D : Ends} {σ : L2.St} {ε : Env}
theorem PostS.rebase {o : Out Fl} (p : PostS Γ X Wx W H st o D) (e : Ext W H st W1 H1 st1) : PostS Γ X Wx W1 H1 st1 o D := by
  cases o with
  | ok a st' => exact fun W' H' e' r => p W' H' (e.trans e') r
  | err ex st' => exact fun σ cls d W' H' e' r q => p σ cls d W' H' (e.trans e') r q
  | bad => exact p
theorem PostG.rebase {S : L2.St → Prop} {o : Out Env} {Q : L2.St → Hp → Prop} (p : PostG Γ X Wx S W H st o Q) (e : Ext W H st W1 H1 st1) : PostG Γ X Wx S W1 H1 st1 o Q := by
  cases o with
  | ok a st' => exact fun W' H' e' r => p W' H' (e.trans e') r
  | err ex st' => exact fun σ cls d W' H' e' r q => p σ cls d W' H' (e.trans e') r q
  | bad => exact p
/-- the first part of a statement's run -/
theorem tG_ofS {α β : Type} {R : Rl α β} {F : Env → M α} {g : α → M Fl} {Q1 : β → Hp → Prop} (rel : Rel Γ.T (kp X) W H st) (env : EnvR Γ X W H st.length σ ε) (post : PostS Γ X Wx W H st (M.bind (F ε) g st) D)
    (k : ∀ b a W1 H1 st1, F ε st = .ok a st1 → Ext W H st W1 H1 st1 → Rel Γ.T (kp X) W1 H1 st1 → EnvR Γ X W1 H1 st1.length σ ε → R W1 H1 st1.length b a → PostS Γ X Wx W1 H1 st1 (g a st1) D → Q1 b H1) : tG Γ X R F Wx σ H Q1 := by
  refine ⟨W, ε, st, rel, env, ?_⟩
  unfold M.bind at post
  cases e : F ε st with
  | ok a st1 =>
    rw [e] at post
    exact fun b W' H' x r q => k b a W' H' st1 e x r (env.ext rel x) q (post.rebase x)
  | err ex st1 => rw [e] at post; exact fun cls d W' H' => post σ cls d W' H'
  | bad => rw [e] at post; exact post
theorem tG_ofG {S : L2.St → Prop} {α β : Type} {R : Rl α β} {F : Env → M α} {g : α → M Env} {Q : L2.St → Hp → Prop} {Q1 : β → Hp → Prop} (rel : Rel Γ.T (kp X) W H st) (env : EnvR Γ X W H st.length σ ε) (post : PostG Γ X Wx S W H st (M.bind (F ε) g st) Q)
    (k : ∀ b a W1 H1 st1, F ε st = .ok a st1 → Ext W H st W1 H1 st1 → Rel Γ.T (kp X) W1 H1 st1 → EnvR Γ X W1 H1 st1.length σ ε → R W1 H1 st1.length b a → PostG Γ X Wx S W1 H1 st1 (g a st1) Q → Q1 b H1) : tG Γ X R F Wx σ H Q1 := by
  refine ⟨W, ε, st, rel, env, ?_⟩
  unfold M.bind at post
  cases e : F ε st with
  | ok a st1 =>
    rw [e] at post
    exact fun b W' H' x r q => k b a W' H' st1 e x r (env.ext rel x) q (post.rebase x)
  | err ex st1 => rw [e] at post; exact fun cls d W' H' => post σ cls d W' H'
  | bad => rw [e] at post; exact post
theorem go_nx (p : PostS Γ X Wx W H st (M.pure (.nx ε) st) D) (rel : Rel Γ.T (kp X) W H st) (env : EnvR Γ X W H st.length σ ε) : D.nx σ H := p W H Ext.refl rel σ env
theorem RV.any {P P' : L2.St → Prop} {n : Nat} {v : V} {x : Val} (h : isC x = false) (r : RV Γ X P W H n v x) : RV Γ X P' W H n v x := by
  cases x with
  | d x => exact r
  | o l => exact r
  | c k ws => cases h
  | g f => exact r
theorem postS_noC {x : Val} {g : Val → M Fl} (p : PostS Γ X Wx W H st (M.bind (noC x) g st) D) : isC x = false ∧ PostS Γ X Wx W H st (g x st) D := by
  unfold noC at p
  cases e : isC x with
  | true => simp only [e, if_true] at p; exact p.elim
  | false => simp only [e, Bool.false_eq_true, if_false] at p; exact ⟨rfl, p⟩
theorem postS_datP {x : Val} {g : PyData → M Fl} (p : PostS Γ X Wx W H st (M.bind (datP x) g st) D) : ∃ d, x = .d d ∧ isDct d = false ∧ PostS Γ X Wx W H st (g d st) D := by
  cases x with
  | d z =>
    unfold datP at p
    cases e : isDct z with
    | false => simp only [e, Bool.false_eq_true, if_false] at p; exact ⟨z, rfl, e, p⟩
    | true => simp only [e, if_true] at p; exact p.elim
  | o l => exact p.elim
  | c k ws => exact p.elim
  | g f => exact p.elim
theorem postG_dat {S : L2.St → Prop} {x : Val} {g : PyData → M Env} {Q : L2.St → Hp → Prop} (p : PostG Γ X Wx S W H st (M.bind (dat x) g st) Q) : ∃ d, x = .d d ∧ PostG Γ X Wx S W H st (g d st) Q := by
  cases x with
  | d z => exact ⟨z, rfl, p⟩
  | o l => exact p.elim
  | c k ws => exact p.elim
  | g f => exact p.elim
theorem postS_bln {x : Val} {g : Bool → M Fl} (p : PostS Γ X Wx W H st (M.bind (bln x) g st) D) : ∃ b, x = .d (.bool b) ∧ PostS Γ X Wx W H st (g b st) D := by
  cases x with
  | d z => cases z <;> first | exact ⟨_, rfl, p⟩ | exact p.elim
  | o l => exact p.elim
  | c k ws => exact p.elim
  | g f => exact p.elim
end
section
variable {Γ : Gc} {X : Cx} {k : Nat} {a b c e : Expr} {es rest : List Expr} {pos p p2 : Pos} {Fa Fb Fc : Env → M Val} {Fs : Env → M (List Val)} {i j : Nat} {x y : Str} {l : Pos} {F1 F2 : Env → M Fl} {s : Stmt} {ss sa sb : List Stmt} {Ft : PyData → Env → M Env} {Fu : List PyData → Env → M Env} {t : Expr} {ts : List Expr}
/-! ### targets -/
/-- a name's slot -/
structure Slot' (X : Cx) (x : Str) (i : Nat) : Prop where
  at_ : X.N[i]? = some x
  loc : Loc X.env.scope x
  fn : X.fn x = true ∨ X.env.scope.names.lookup x = some .local
theorem wipe_in {σ : L2.St} {v : Option V} {i : Nat} : ∀ {vs : List Nat}, i ∈ vs → wipe (σ.set i v) vs = wipe σ vs
  | j :: vs, h => by
    unfold wipe
    by_cases hi : i ∈ vs
    · rw [wipe_in hi]
    · have e : i = j := (List.mem_cons.mp h).resolve_right hi
      subst e
      have key : ∀ vs : List Nat, i ∉ vs → wipe (σ.set i v) vs = (wipe σ vs).set i v := by
        intro vs
        induction vs with
        | nil => intro _; rfl
        | cons j vs ih =>
          intro h
          rw [List.mem_cons, not_or] at h
          unfold wipe
          rw [ih h.2, List.set_comm _ _ (fun e => h.1 e)]
      rw [key vs hi, List.set_set]
theorem dg_nm {vs : List Nat} (hN : X.N.Nodup) (h : Slot' X x i) (hi : i ∈ vs) : DG Γ X vs (.Name x pos) (fun d ε => M.pure (setE ε i (.d d))) := fun Wx _ => by
  refine ⟨fun pins s σ H v u Q I r ⟨W, ε, st, d, rel, env, hp, post⟩ => ?_⟩
  exact (pg_name hN h.at_ h.loc h.fn).run pins s σ H v u Q I r (post W H Ext.refl rel _ (env.set (x := .v (.d d)) (.pl hp)) (wipe_in hi))
theorem dgs_nil {vv : List Nat} : DGs Γ X vv [] (fun ds ε => match ds with
    | [] => M.pure ε
    | _ => M.bad) := fun Wx _ => by
  refine ⟨fun pins s σ H vs us Q I r ⟨W, ε, st, ds, rel, env, hp, post⟩ => ?_⟩
  cases hp with
  | nil => exact pgs_nil.run pins s σ H _ us Q I r ⟨rfl, post W H Ext.refl rel σ env rfl⟩
  | cons _ _ => exact post.elim
theorem asgEach_cons {env : PySem.Env} (h : unstar e = true) : assignEach (e :: es) env = (false, assign e env) :: assignEach es env := by
  cases e <;> first | rfl | cases h
theorem dgs_cons {vv : List Nat} (h1 : DG Γ X vv t Ft) (h2 : DGs Γ X vv ts Fu) (h : unstar t = true) : DGs Γ X vv (t :: ts) (fun ds ε => match ds with
    | d :: r => M.bind (Ft d ε) fun ε' => Fu r ε'
    | [] => M.bad) := fun Wx tk => by
  refine ⟨fun pins s σ H vs us Q I r ⟨W, ε, st, ds, rel, env, hp, post⟩ => ?_⟩
  refine (pgs_cons (h1 Wx tk) (h2 Wx tk) (by rw [asgEach_cons h]; rfl)).run pins s σ H vs us Q I r ?_
  match vs, ds, hp, post with
  | _, [], .nil, post => exact post.elim
  | _, d :: ds, .cons q1 q2, post =>
    refine ⟨_, _, rfl, W, ε, st, d, rel, env, q1, ?_⟩
    have post : PostG Γ X Wx (Sw vv σ) W H st (M.bind (Ft d ε) (fun ε' => Fu ds ε') st) Q := post
    unfold M.bind at post
    cases e1 : Ft d ε st with
    | ok ε1 st1 =>
      rw [e1] at post
      refine fun W1 H1 x1 rel1 σ1 env1 s1 => ⟨W1, ε1, st1, ds, rel1, env1, q2.more x1.hs, ?_⟩
      have p2 : PostG Γ X Wx (Sw vv σ) W H st (Fu ds ε1 st1) Q := post
      have p3 := p2.rebase x1
      have e : Sw vv σ1 = Sw vv σ := by
        funext σ'
        unfold Sw
        rw [show wipe σ1 vv = wipe σ vv from s1]
      rw [e]
      exact p3
    | err ex st1 => rw [e1] at post; exact post
    | bad => rw [e1] at post; exact post
def tpF (Fu : List PyData → Env → M Env) : PyData → Env → M Env := fun d ε => match d with
  | .tuple xs => Fu xs ε
  | _ => M.bad
theorem asg_len {env : PySem.Env} : ∀ {ts : List Expr}, unstars ts = true → (assignEach ts env).length = ts.length ∧ (assignEach ts env).findIdx? (·.1) = none
  | [], _ => ⟨rfl, rfl⟩
  | e :: es, h => by
    unfold unstars at h
    rw [List.all_cons, Bool.and_eq_true] at h
    obtain ⟨h1, h2⟩ := asg_len (env := env) (ts := es) h.2
    rw [asgEach_cons h.1]
    refine ⟨by rw [List.length_cons, List.length_cons, h1], ?_⟩
    rw [List.findIdx?_cons, h2]
    rfl
/-- what a row of targets takes is as long as they are -/
def LenOk (n : Nat) (Fu : List PyData → Env → M Env) : Prop := ∀ ds ε st, ds.length ≠ n → Fu ds ε st = .bad
theorem dg2_tp {kk : Nat} {vv : List Nat} (hc : X.calm = true) (h : DGs Γ X vv ts Fu) (hu : unstars ts = true) (hl : LenOk ts.length Fu) : DG2 Γ X vv (.Tuple ts kk pos) (tpF Fu) := fun Wx tk => by
  refine ⟨fun pins s σ H v u Q I r ⟨W, ε, st, T, vs, ds, rel, env, e, hq, hp, post⟩ => ?_⟩
  have hn : ds.length = ts.length := by
    by_cases z : ds.length = ts.length
    · exact z
    · have q := hl ds ε st z
      have post : PostG Γ X Wx (Sw vv σ) W H st (Fu ds ε st) Q := post
      rw [q] at post
      exact post.elim
  exact (pg_tup hc (h Wx tk) (asg_len hu).1 (asg_len hu).2).run pins s σ H v u Q I r ⟨T, vs, e, hq, by rw [hp.length, hn], W, ε, st, ds, rel, env, hp, post⟩
theorem dg_tp {kk : Nat} {vv : List Nat} (hc : X.calm = true) (h : DGs Γ X vv ts Fu) (hu : unstars ts = true) (hl : LenOk ts.length Fu) : DG Γ X vv (.Tuple ts kk pos) (tpF Fu) := fun Wx tk => by
  refine ⟨fun pins s σ H v u Q I r ⟨W, ε, st, d, rel, env, hp, post⟩ => ?_⟩
  cases d with
  | tuple ds =>
    cases hp with
    | tup h1 h2 h3 h4 => exact (dg2_tp hc h hu hl Wx tk).run pins s σ H _ u Q I r ⟨W, ε, st, _, _, ds, rel, env, rfl, .inl (.inr ⟨_, rel.sub.tup h1⟩), h4, post⟩
  | _ => exact post.elim
theorem postG_unit {S : L2.St → Prop} {Wx : WX} {W : Wd} {H : Hp} {st : Sto} {ε : Env} {σ : L2.St} {Q : L2.St → Hp → Prop} {m : M Unit} (p : PostG Γ X Wx S W H st (M.bind m (fun _ => M.pure ε) st) Q) (rel : Rel Γ.T (kp X) W H st) (env : EnvR Γ X W H st.length σ ε) (hS : S σ) : Post Γ X REq σ Wx W H st (m st) (fun (_ : Unit) H' => Q σ H') := by
  unfold M.bind at p
  cases e : m st with
  | ok u st1 => rw [e] at p; exact fun b W1 H1 x1 rel1 _ => p W1 H1 x1 rel1 σ (env.ext rel x1) hS
  | err ex st1 => rw [e] at p; exact fun cls d W' H' => p σ cls d W' H'
  | bad => rw [e] at p; exact p
/-! ### o[i] = v -/
def rSt (Γ : Gc) (X : Cx) (S : Val → PyData → PyData → M Unit) : V → V → V → Hp → (Hp → Prop) → Prop := fun o i v H Q => ∃ σ Wx W st x kd d, Rel Γ.T (kp X) W H st ∧ RVs Γ X σ W H st.length o x ∧ RVs Γ X σ W H st.length i (.d kd) ∧ Pl (kp X) W.Hs v d ∧ Post Γ X REq σ Wx W H st (S x kd d st) (fun (_ : Unit) H' => Q H')
theorem set_L : PSet X (rSt Γ X storeL) := by
  intro pins s σ' H o i v ov iv u Q I ro ri rv ⟨σ, Wx, W, st, x, kd, d, R, r1, r2, hp, p0⟩
  cases x with
  | o l =>
    cases kd with
    | int n =>
      obtain ⟨dd, ed, p1⟩ := post_vw p0
      obtain ⟨xs, rfl, el⟩ := vw_o ed
      obtain ⟨vs, h1, hz, q⟩ := cel_lst R el
      obtain ⟨_, rfl⟩ := r1
      have p1 : Post Γ X REq σ Wx W H st ((match ixN xs.length n with
        | some j => setO l (.lst (xs.set j d))
        | none => M.bad) st) (fun (_ : Unit) H' => Q H') := p1
      cases ej : ixN xs.length n with
      | none => simp only [ej] at p1; exact p1.elim
      | some j =>
        simp only [ej] at p1
        refine set_list pins s σ' H _ i v ov iv u Q I ro ri rv ⟨W.ρ l, vs, n, j, rfl, rv_int r2, h1, by rw [q.length]; exact ej, ?_⟩
        exact fin_write (b := ()) (Q := fun _ H' => Q H') p1 R el (fun z => by cases z) ⟨_, rfl, by rw [List.length_set]; exact hz, q.set j hp⟩ (fun z => by cases z) fun _ => rfl
    | _ => exact p0.elim
  | _ => exact p0.elim
theorem dctOf_o {l : Nat} {q : Bool × List (PyData × PyData)} {st st' : Sto} (h : dctOf (.o l) st = .ok q st') : st[l]? = some (.dct q.1 q.2) := by
  unfold dctOf at h
  cases e : st[l]? with
  | none => simp only [e] at h; cases h
  | some c =>
    cases c with
    | dct tk ps => simp only [e] at h; cases h; rfl
    | _ => simp only [e] at h; cases h
theorem set_D (hr : Room k X.A) : PSet X (rSt Γ X storeD) := by
  intro pins s σ' H o i v ov iv u Q I ro ri rv ⟨σ, Wx, W, st, x, kd, d, R, r1, r2, hp, p0⟩
  cases x with
  | o l =>
    obtain ⟨q, eq, p1⟩ := post_dct p0
    have el := dctOf_o eq
    obtain ⟨tk, ps⟩ := q
    obtain ⟨_, oo, e2, hc⟩ := R.cel l _ el (by intro z; cases z)
    obtain ⟨_, rfl⟩ := r1
    cases ref_of ro
    have p1 : Post Γ X REq σ Wx W H st ((if isKey kd && (isTk kd == tk) && decide (ps.length < sizeLine) then setO l (.dct tk (putD ps kd d)) else M.bad) st) (fun (_ : Unit) H' => Q H') := p1
    cases hb : (isKey kd && (isTk kd == tk) && decide (ps.length < sizeLine)) with
    | false => simp only [hb, Bool.false_eq_true, if_false] at p1; exact p1.elim
    | true =>
      simp only [hb, if_true] at p1
      simp only [Bool.and_eq_true, decide_eq_true_eq] at hb
      obtain ⟨⟨hk, ht⟩, hz⟩ := hb
      have hpl : isDct kd = false := by cases kd <;> first | rfl | (exfalso; exact Bool.false_ne_true hk)
      have hpk : Pl (kp X) W.Hs i kd := Rp.plain r2 hpl
      cases tk with
      | false =>
        obtain ⟨kvs, rfl, hkv⟩ := hc
        have : ∃ k, kd = keyD k := by
          cases kd with
          | int i => exact ⟨.inl i, rfl⟩
          | str z => exact ⟨.inr z, rfl⟩
          | tuple xs => cases ht
          | _ => cases hk
        obtain ⟨k, rfl⟩ := this
        have hs : ∀ x, k = .inr x → PyData.strOk x = true ∧ x.length ≤ sizeLine := fun x e => by
          subst e
          cases hpk with
          | str _ a b => exact ⟨a, b⟩
        rw [key_pl hpk] at ri
        have hlen : kvs.length = ps.length := Paired.length hkv
        refine d_setItem (X := X) (room1 hr) I (.k e2 (by rw [hlen]; exact hz)) ri rv (Q := fun _ s' => ∃ H', Inv X pins σ' H' s' ∧ Q H') fun s' I' => ⟨_, I', ?_⟩
        exact fin_write (b := ()) (Q := fun _ H' => Q H') p1 R el (fun z => by cases z) ⟨_, rfl, hkv.put hp hs⟩ (fun z => by cases z) fun _ => rfl
      | true =>
        obtain ⟨kvs, rfl, hkv⟩ := hc
        have : ∃ ks : List Key, kd = tkD ks := by
          cases kd with
          | tuple xs => obtain ⟨ks, rfl⟩ := flat_keys hk; exact ⟨ks, rfl⟩
          | _ => cases ht
        obtain ⟨k, rfl⟩ := this
        have hpk' := hpk
        unfold tkD at hpk
        cases hpk with
        | tup h1 h2 h3 h4 =>
          rw [keys_pl h4] at h1
          cases ref_of ri
          have hlen : kvs.length = ps.length := Paired.length hkv
          refine D_setT (room1 hr) I e2 (TP.keys R.sub hkv) (R.sub.tup h1) (by rw [hlen]; exact hz) rv fun s' I' => ⟨_, I', ?_⟩
          exact fin_write (b := ()) (Q := fun _ H' => Q H') p1 R el (fun z => by cases z) ⟨_, rfl, hkv.put hp hpk'⟩ (fun z => by cases z) fun _ => rfl
  | _ => exact p0.elim
theorem asg_sub {o i : Expr} {env : PySem.Env} {v : Value} (h : isSlice i = false) : assign (.Subscript o i pos) env v = (do
      let ov ← holding [v] (eval o env)
      let iv ← holding [v, ov] (eval i env)
      standAt pos
      holding [v, ov, iv] (setItem ov iv v)
      release [v, ov, iv] []) := by
  cases i <;> first | rfl | cases h
end
end Fx

set_option Elab.async false
set_option linter.all false
set_option maxRecDepth 100000
set_option maxHeartbeats 4000000
/-! Fx19: statements. -/
namespace Fx
open PySem PySem.Spec PyProof.Rows L2 NdefX LamX
section
variable {Γ : Gc} {X : Cx} {k : Nat} {a b c e : Expr} {es rest : List Expr} {pos p p2 : Pos} {Fa Fb Fc : Env → M Val} {Fs : Env → M (List Val)} {i j : Nat} {x y : Str} {l : Pos} {F1 F2 : Env → M Fl} {s : Stmt} {ss sa sb : List Stmt} {Ft : PyData → Env → M Env} {Fu : List PyData → Env → M Env} {t : Expr} {ts : List Expr}
theorem dg_st {vv : List Nat} {S : Val → PyData → PyData → M Unit} (hS : PSet X (rSt Γ X S)) (ha : DE Γ X a Fa) (hb : DE Γ X b Fb) (h : isSlice b = false) :
    DG Γ X vv (.Subscript a b pos) (fun d ε => M.bind (Fa ε) fun v => M.bind (Fb ε) fun i => M.bind (dat i) fun i => M.bind (S v i d) fun _ => M.pure ε) := fun Wx tk => by
  refine ⟨fun pins s σ H v u Q I r ⟨W, ε, st, d, rel, env, hp, post⟩ => ?_⟩
  refine (pg_sub (ha Wx tk) (hb Wx tk) hS (fun v => asg_sub h)).run pins s σ H v u Q I r ?_
  refine tG_ofG rel env post fun o x W1 H1 st1 e1 x1 rel1 env1 r1 p1 => tG_ofG rel1 env1 p1 fun i y W2 H2 st2 e2 x2 rel2 env2 r2 p2 => ?_
  obtain ⟨kd, rfl, p3⟩ := postG_dat p2
  exact ⟨σ, Wx, W2, st2, x, kd, d, rel2, r1.ext rel1 x2, r2, (hp.more x1.hs).more x2.hs, postG_unit p3 rel2 env2 rfl⟩
/-! ### plain statements -/
def compE (e : Expr) : Bool := match e with
  | .ListComp _ _ _ _ => true
  | .SetComp _ _ _ _ => true
  | .DictComp _ _ _ _ _ => true
  | _ => false
theorem sw_no {tg : Option Expr} {n : Nat} {env : PySem.Env} (h : compE e = false) : swapsWith e tg n env = pure false := by
  cases e <;> first | rfl | cases h
theorem ds_ex (ha : DE Γ X a Fa) (h : compE a = false) : DS Γ X (.Expr a pos) (fun ε => M.bind (Fa ε) fun _ => M.pure (.nx ε)) := fun Wx tk =>
  (ps_expr (ha Wx tk) (sw_no h)).imp fun D σ H ⟨W, ε, st, rel, env, post⟩ => tG_ofS rel env post fun v x W1 H1 st1 e1 x1 rel1 env1 r1 p1 => go_nx p1 rel1 env1
theorem ds_set (hN : X.N.Nodup) (hs : Slot' X x i) (ha : DE Γ X a Fa) (h : compE a = false) : DS Γ X (.Assign [.Name x p] a pos) (fun ε => M.bind (Fa ε) fun v => M.bind (noC v) fun v => M.pure (.nx (setE ε i v))) := fun Wx tk =>
  (ps_set hN hs.at_ hs.loc (ha Wx tk) (sw_no h) hs.fn).imp fun D σ H ⟨W, ε, st, rel, env, post⟩ => tG_ofS rel env post fun v x W1 H1 st1 e1 x1 rel1 env1 r1 p1 => by
    obtain ⟨hc, p2⟩ := postS_noC p1
    exact go_nx p2 rel1 (env1.set (x := .v x) (RV.any hc r1))
theorem ds_setX (hN : X.N.Nodup) (hs : Slot' X x i) (ha : DE Γ X a Fa) (h : swapsWith a (some (.Name x p)) pos.line X.env = pure false) : DS Γ X (.Assign [.Name x p] a pos) (fun ε => M.bind (Fa ε) fun v => M.bind (noC v) fun v => M.pure (.nx (setE ε i v))) := fun Wx tk =>
  (ps_set hN hs.at_ hs.loc (ha Wx tk) h hs.fn).imp fun D σ H ⟨W, ε, st, rel, env, post⟩ => tG_ofS rel env post fun v x W1 H1 st1 e1 x1 rel1 env1 r1 p1 => by
    obtain ⟨hc, p2⟩ := postS_noC p1
    exact go_nx p2 rel1 (env1.set (x := .v x) (RV.any hc r1))
theorem postS_G {S : L2.St → Prop} {Wx : WX} {W : Wd} {H : Hp} {st : Sto} {D : Ends} {m : M Env} (p : PostS Γ X Wx W H st (M.bind m (fun ε => M.pure (.nx ε)) st) D) : PostG Γ X Wx S W H st (m st) D.nx := by
  unfold M.bind at p
  cases e : m st with
  | ok ε st1 => rw [e] at p; exact fun W1 H1 x1 rel1 σ env _ => p W1 H1 x1 rel1 σ env
  | err ex st1 => rw [e] at p; exact p
  | bad => rw [e] at p; exact p
def isNm (e : Expr) : Bool := match e with
  | .Name _ _ => true
  | _ => false
theorem sole_no {n : Nat} {env : PySem.Env} (h : isNm t = false) : swapsWithSole [t] a n env = pure false := by
  cases t <;> first | (cases h; done) | (cases a <;> rfl)
def isTupE (e : Expr) : Bool := match e with
  | .Tuple _ _ _ => true
  | _ => false
def isLstE (e : Expr) : Bool := match e with
  | .List _ _ => true
  | _ => false
theorem stores_no {env : PySem.Env} (h : (isTupE t && isTupE a) = false) (h2 : isLstE t = false) : swappedStores [t] a env = pure none := by
  cases t <;> first | (cases h2; done) | (cases a <;> first | rfl | cases h)
/-- target = value, the target no plain name -/
theorem ds_asg {vv : List Nat} (hg : DG Γ X vv t Ft) (ha : DE Γ X a Fa) (h1 : isNm t = false) (h2 : unstar t = true) (h3 : (isTupE t && isTupE a) = false) (h4 : isLstE t = false) : DS Γ X (.Assign [t] a pos) (fun ε => M.bind (Fa ε) fun v => M.bind (datP v) fun x => M.bind (Ft x ε) fun ε' => M.pure (.nx ε')) := fun Wx tk =>
  (ps_asg (ha Wx tk) (hg Wx tk) (sole_no h1) (stores_no h3 h4) (by rw [asgEach_cons h2]; rfl)).imp fun D σ H ⟨W, ε, st, rel, env, post⟩ => tG_ofS rel env post fun v x W1 H1 st1 e1 x1 rel1 env1 r1 p1 => by
    obtain ⟨d, rfl, hd, p2⟩ := postS_datP p1
    exact ⟨W1, ε, st1, d, rel1, env1, Rp.plain r1 hd, postS_G p2⟩
theorem ds_pass : DS Γ X (.Pass pos) (fun ε => M.pure (.nx ε)) := fun Wx tk => ps_pass.imp fun D σ H ⟨W, ε, st, rel, env, post⟩ => go_nx post rel env
theorem ds_brk : DS Γ X (.Break pos) (fun ε => M.pure (.bk ε)) := fun Wx tk => ps_break.imp fun D σ H ⟨W, ε, st, rel, env, post⟩ => post W H Ext.refl rel σ env
theorem ds_cnt : DS Γ X (.Continue pos) (fun ε => M.pure (.ct ε)) := fun Wx tk => ps_continue.imp fun D σ H ⟨W, ε, st, rel, env, post⟩ => post W H Ext.refl rel σ env
theorem ds_ret (ha : DE Γ X a Fa) : DS Γ X (.Return (some a) pos) (fun ε => M.bind (Fa ε) fun v => M.bind (noC v) fun v => M.pure (.rt v)) := fun Wx tk =>
  (ps_ret (ha Wx tk)).imp fun D σ H ⟨W, ε, st, rel, env, post⟩ => tG_ofS rel env post fun v x W1 H1 st1 e1 x1 rel1 env1 r1 p1 => by
    obtain ⟨hc, p2⟩ := postS_noC p1
    exact p2 W1 H1 Ext.refl rel1 v (RV.any hc r1)
theorem ds_retN : DS Γ X (.Return none pos) (fun _ => M.pure (.rt (.d .none))) := fun Wx tk => ps_retN.imp fun D σ H ⟨W, ε, st, rel, env, post⟩ => post W H Ext.refl rel .non (.pl .non)
theorem ds_if (hc : DT Γ X c (tst Fc)) (ha : DSs Γ X sa F1) (hb : DSs Γ X sb F2) : DS Γ X (.If c sa sb pos) (fun ε => M.bind (Fc ε) fun v => M.bind (bln v) fun k => if k then F1 ε else F2 ε) := fun Wx tk =>
  (ps_if (hc Wx tk) (ha Wx tk) (hb Wx tk)).imp fun D σ H ⟨W, ε, st, rel, env, post⟩ => by
    have post : PostS Γ X Wx W H st (M.bind (tst Fc ε) (fun k => if k then F1 ε else F2 ε) st) D := by
      have e : (M.bind (tst Fc ε) fun k => if k then F1 ε else F2 ε) = M.bind (Fc ε) fun v => M.bind (bln v) fun k => if k then F1 ε else F2 ε := by
        unfold tst
        rw [M.bind_assoc]
      rw [e]
      exact post
    refine tG_ofS rel env post fun k k' W1 H1 st1 e1 x1 rel1 env1 r1 p1 => ?_
    cases r1
    cases k with
    | true => exact ⟨W1, ε, st1, rel1, env1, p1⟩
    | false => exact ⟨W1, ε, st1, rel1, env1, p1⟩
theorem dss_nil : DSs Γ X [] (fun ε => M.pure (.nx ε)) := fun Wx tk => pss_nil.imp fun D σ H ⟨W, ε, st, rel, env, post⟩ => go_nx post rel env
def seqF (F1 F2 : Env → M Fl) : Env → M Fl := fun ε => M.bind (F1 ε) fun w => match w with
    | .nx ε' => F2 ε'
    | w => M.pure w
theorem dss_cons (h1 : DS Γ X s F1) (h2 : DSs Γ X ss F2) : DSs Γ X (s :: ss) (seqF F1 F2) := fun Wx tk =>
  (pss_cons (h1 Wx tk) (h2 Wx tk)).imp fun D σ H ⟨W, ε, st, rel, env, post⟩ => by
    refine ⟨W, ε, st, rel, env, ?_⟩
    unfold seqF M.bind at post
    cases e : F1 ε st with
    | ok w st1 =>
      rw [e] at post
      intro W1 H1 x1 rel1
      cases w with
      | nx ε1 => exact fun σ1 env1 => ⟨W1, ε1, st1, rel1, env1, PostS.rebase (o := F2 ε1 st1) post x1⟩
      | rt v => exact post W1 H1 x1 rel1
      | bk ε1 => exact post W1 H1 x1 rel1
      | ct ε1 => exact post W1 H1 x1 rel1
    | err ex st1 => rw [e] at post; exact post
    | bad => rw [e] at post; exact post
/-! ### a, b = .., .. -/
theorem ds_par2 (hc : X.calm = true) (hN : X.N.Nodup) (hs : Slot' X x i) (ht : Slot' X y j) (hij : i ≠ j) (hl : DA Γ X [a, b] Fs) {px py pt pt2 : Pos} {kt k2 : Nat} (hx : X.env.scope.names.lookup x = some .local) (hy : X.env.scope.names.lookup y = some .local)
    (hw : swappedStores [.Tuple [.Name x px, .Name y py] kt pt] (.Tuple [a, b] k2 pt2) X.env = pure (some [x, y])) :
    DS Γ X (.Assign [.Tuple [.Name x px, .Name y py] kt pt] (.Tuple [a, b] k2 pt2) pos) (fun ε => M.bind (Fs ε) fun vs => (match evPar (.cons (.nm i) (.cons (.nm j) .nil)) vs ε with
    | some ε' => M.pure (.nx ε')
    | none => M.bad)) := fun Wx tk =>
  (ps_par hc hN hs.at_ ht.at_ hij hx hy (hl Wx tk) hw rfl).imp fun D σ H ⟨W, ε, st, rel, env, post⟩ => tG_ofS rel env post fun us vs W1 H1 st1 e1 x1 rel1 env1 r1 p1 => by
    match us, vs, r1, p1 with
    | [u, w], [v, z], .cons q1 (.cons q2 .nil), p1 =>
      refine ⟨u, w, rfl, ?_⟩
      unfold evPar evPar evPar at p1
      cases c1 : isC v with
      | true => simp only [c1, if_true] at p1; exact p1.elim
      | false =>
        cases c2 : isC z with
        | true => simp only [c1, c2, if_true, Bool.false_eq_true, if_false] at p1; exact p1.elim
        | false =>
          simp only [c1, c2, Bool.false_eq_true, if_false] at p1
          exact go_nx p1 rel1 ((env1.set (x := .v v) (RV.any c1 q1)).set (x := .v z) (RV.any c2 q2))
    | [], [], .nil, p1 => exact p1.elim
    | [u], [v], .cons q1 .nil, p1 =>
      unfold evPar at p1
      cases c1 : isC v with
      | true => simp only [c1, if_true] at p1; exact p1.elim
      | false => simp only [c1, Bool.false_eq_true, if_false] at p1; exact p1.elim
    | _ :: _ :: _ :: us, v :: z :: w :: vs, .cons _ (.cons _ (.cons _ _)), p1 =>
      unfold evPar evPar evPar at p1
      cases c1 : isC v <;> cases c2 : isC z <;> (simp only [c1, c2, if_true, Bool.false_eq_true, if_false] at p1; exact p1.elim)
/-- by the pair itself -/
theorem ds_par2T (hc : X.calm = true) (hN : X.N.Nodup) (hs : Slot' X x i) (ht : Slot' X y j) (hl : DA Γ X [a, b] Fs) {px py pt pt2 : Pos} {kt k2 : Nat}
    (hw : swappedStores [.Tuple [.Name x px, .Name y py] kt pt] (.Tuple [a, b] k2 pt2) X.env = pure none) :
    DS Γ X (.Assign [.Tuple [.Name x px, .Name y py] kt pt] (.Tuple [a, b] k2 pt2) pos) (fun ε => M.bind (Fs ε) fun vs => (match evPar (.cons (.nm i) (.cons (.nm j) .nil)) vs ε with
    | some ε' => M.pure (.nx ε')
    | none => M.bad)) := fun Wx tk =>
  (ps_asg (pe_tup (hl Wx tk)) (pg_tup hc (pgs_cons (pg_name hN hs.at_ hs.loc hs.fn) (pgs_cons (pg_name hN ht.at_ ht.loc ht.fn) pgs_nil rfl) rfl) rfl rfl) rfl hw rfl).imp fun D σ H ⟨W, ε, st, rel, env, post⟩ => tG_ofS rel env post fun us vs W1 H1 st1 e1 x1 rel1 env1 r1 p1 => by
    match us, vs, r1, p1 with
    | [u, w], [v, z], .cons q1 (.cons q2 .nil), p1 =>
      refine ⟨by show 2 ≤ sizeLine; rw [sizeLine_eq]; decide, fun p' hp => ⟨p', [u, w], rfl, .inl (.inl upd_same), rfl, u, [w], rfl, w, [], rfl, rfl, ?_⟩⟩
      unfold evPar evPar evPar at p1
      cases c1 : isC v with
      | true => simp only [c1, if_true] at p1; exact p1.elim
      | false =>
        cases c2 : isC z with
        | true => simp only [c1, c2, if_true, Bool.false_eq_true, if_false] at p1; exact p1.elim
        | false =>
          simp only [c1, c2, Bool.false_eq_true, if_false] at p1
          exact p1 W1 _ (Ext.misc hp) (rel1.misc hp) _ ((((env1.ext rel1 (Ext.misc hp)).set (x := .v v) (RV.ext (RV.any c1 q1) rel1 (Ext.misc hp)))).set (x := .v z) (RV.ext (RV.any c2 q2) rel1 (Ext.misc hp)))
    | [], [], .nil, p1 => exact p1.elim
    | [u], [v], .cons q1 .nil, p1 =>
      unfold evPar at p1
      cases c1 : isC v with
      | true => simp only [c1, if_true] at p1; exact p1.elim
      | false => simp only [c1, Bool.false_eq_true, if_false] at p1; exact p1.elim
    | _ :: _ :: _ :: us, v :: z :: w :: vs, .cons _ (.cons _ (.cons _ _)), p1 =>
      unfold evPar evPar evPar at p1
      cases c1 : isC v <;> cases c2 : isC z <;> (simp only [c1, c2, if_true, Bool.false_eq_true, if_false] at p1; exact p1.elim)
end
end Fx

set_option Elab.async false
set_option linter.all false
set_option maxRecDepth 100000
set_option maxHeartbeats 4000000
/-! Fx20: op= at a name; while; for. -/
namespace Fx
open PySem PySem.Spec PyProof.Rows L2 NdefX LamX
section
variable {Γ : Gc} {X : Cx} {k : Nat} {a b c e : Expr} {es rest : List Expr} {pos p p2 : Pos} {Fa Fb Fc : Env → M Val} {Fs : Env → M (List Val)} {i j : Nat} {x y : Str} {l : Pos} {F1 F2 : Env → M Fl} {s : Stmt} {ss sa sb : List Stmt} {Ft : PyData → Env → M Env} {Fu : List PyData → Env → M Env} {t : Expr} {ts : List Expr}
/-! ### x op= e -/
theorem ip_add : PIp X .Add (fun x y H Q => ∃ i j, x = .int i ∧ y = .int j ∧ Q (.int (i + j)) H) := iop_add
theorem ip_sub : PIp X .Sub (fun x y H Q => ∃ i j, x = .int i ∧ y = .int j ∧ Q (.int (i - j)) H) := iop_sub
def augF (i : Nat) (op : Operator) (Fa : Env → M Val) : Env → M Fl := fun ε => (match rdV ε i with
    | some x => M.bind (Fa ε) fun w => M.bind (dat w) fun y => M.bind (ipD op x y) fun z => M.bind (noC z) fun z => M.pure (.nx (setE ε i z))
    | none => M.bad)
theorem postS_dat {Wx : WX} {W : Wd} {H : Hp} {st : Sto} {D : Ends} {x : Val} {g : PyData → M Fl} (p : PostS Γ X Wx W H st (M.bind (dat x) g st) D) : ∃ d, x = .d d ∧ PostS Γ X Wx W H st (g d st) D := by
  cases x with
  | d z => exact ⟨z, rfl, p⟩
  | o l => exact p.elim
  | c k ws => exact p.elim
  | g f => exact p.elim
theorem ds_aug {op : Operator} (hN : X.N.Nodup) (hs : Slot' X x i) (ha : DE Γ X a Fa) (ho : op = .Add ∨ op = .Sub) : DS Γ X (.AugAssign (.Name x p) op a pos) (augF i op Fa) := fun Wx tk => by
  have key : ∀ (g : Int → Int → Int), PIp X op (fun x y H Q => ∃ i j, x = .int i ∧ y = .int j ∧ Q (.int (g i j)) H) → (∀ x y, ipD op x y = (match x, y with
      | .int i, .int j => int (g i j)
      | _, _ => M.bad)) → PS X (.AugAssign (.Name x p) op a pos) (tSx Γ X (augF i op Fa) Wx) := by
    intro g hg he
    refine (ps_aug hN hs.at_ hs.loc (ha Wx tk) hg hs.fn).imp fun D σ H ⟨W, ε, st, rel, env, post⟩ => ?_
    unfold augF at post
    cases ev : rdV ε i with
    | none => rw [ev] at post; exact post.elim
    | some d1 =>
      rw [ev] at post
      obtain ⟨u, h1, h2⟩ := rdV_at env ev
      refine ⟨u, h1, ?_⟩
      refine tG_ofS rel env post fun w y W1 H1 st1 e1 x1 rel1 env1 r1 p1 => ?_
      obtain ⟨d2, rfl, p3⟩ := postS_dat p1
      rw [he] at p3
      have hu : RV Γ X (fun _ => True) W1 H1 st1.length u (.d d1) := Rp.more x1.hs h2
      cases d1 with
      | int i1 =>
        cases d2 with
        | int i2 => exact ⟨_, _, rv_int hu, rv_int r1, go_nx p3 rel1 (env1.set (x := .v (.d (.int _))) (.pl (.int _)))⟩
        | _ => exact p3.elim
      | _ => exact p3.elim
  rcases ho with rfl | rfl
  · exact key (· + ·) ip_add (fun x y => by cases x <;> cases y <;> rfl)
  · exact key (· - ·) ip_sub (fun x y => by cases x <;> cases y <;> rfl)
/-! ### while -/
/-- what a turn's end is followed by -/
def nxtF (G : Env → M Fl) : Fl → M Fl
  | .nx ε => G ε
  | .ct ε => G ε
  | .bk ε => M.pure (.nx ε)
  | .rt v => M.pure (.rt v)
theorem post_nxt {Wx : WX} {W : Wd} {H : Hp} {st : Sto} {D : Ends} {m : M Fl} {G : Env → M Fl} {N : L2.St → Hp → Prop} (p : PostS Γ X Wx W H st (M.bind m (nxtF G) st) D)
    (h : ∀ ε' st' W' H' σ', Ext W H st W' H' st' → Rel Γ.T (kp X) W' H' st' → EnvR Γ X W' H' st'.length σ' ε' → PostS Γ X Wx W' H' st' (G ε' st') D → N σ' H') : PostS Γ X Wx W H st (m st) { D with nx := N, ct := N, bk := D.nx } := by
  unfold M.bind at p
  cases e : m st with
  | ok w st1 =>
    rw [e] at p
    intro W1 H1 x1 rel1
    cases w with
    | nx ε1 => exact fun σ1 env1 => h ε1 st1 W1 H1 σ1 x1 rel1 env1 (PostS.rebase (o := G ε1 st1) p x1)
    | ct ε1 => exact fun σ1 env1 => h ε1 st1 W1 H1 σ1 x1 rel1 env1 (PostS.rebase (o := G ε1 st1) p x1)
    | bk ε1 => exact p W1 H1 x1 rel1
    | rt v => exact p W1 H1 x1 rel1
  | err ex st1 => rw [e] at p; exact p
  | bad => rw [e] at p; exact p
theorem whl_succ {c : Env → M Bool} {f : Env → M Fl} {n : Nat} {ε : Env} : whlS c f (n + 1) ε = M.bind (c ε) fun b => if b then M.bind (f ε) (nxtF (whlS c f n)) else M.pure (.nx ε) := by
  have h : ∀ m : M Fl, (M.bind m fun w => (match w with
      | .nx ε' => whlS c f n ε'
      | .ct ε' => whlS c f n ε'
      | .bk ε' => M.pure (.nx ε')
      | .rt v => M.pure (.rt v))) = M.bind m (nxtF (whlS c f n)) := fun m => by
    have : (fun w : Fl => (match w with
      | .nx ε' => whlS c f n ε'
      | .ct ε' => whlS c f n ε'
      | .bk ε' => M.pure (.nx ε')
      | .rt v => M.pure (.rt v))) = nxtF (whlS c f n) := by
      funext w
      cases w <;> rfl
    rw [this]
  rw [← h]
  rfl
theorem ds_whl (hp : PassesOwn (model X.prog X.w) X.A X.env X.xe) (hc : DT Γ X c (tst Fc)) (hb : DSs Γ X ss F1) (n : Nat) : DS Γ X (.While c ss [] pos) (fun ε => whlS (tst Fc) F1 n ε) := fun Wx tk =>
  (ps_while hp (hc Wx tk) (hb Wx tk)).imp fun D σ H ⟨W, ε, st, rel, env, post⟩ => by
    refine ⟨fun m σ H => ∃ W ε st, Rel Γ.T (kp X) W H st ∧ EnvR Γ X W H st.length σ ε ∧ PostS Γ X Wx W H st (whlS (tst Fc) F1 m ε st) D, ⟨n, W, ε, st, rel, env, post⟩, ?_⟩
    rintro m σ H ⟨W, ε, st, rel, env, post⟩
    cases m with
    | zero => exact post.elim
    | succ m =>
      rw [whl_succ] at post
      refine tG_ofS rel env post fun b b' W1 H1 st1 e1 x1 rel1 env1 r1 p1 => ?_
      cases r1
      cases b with
      | false => exact go_nx p1 rel1 env1
      | true =>
        refine ⟨fun σ H => ∃ W ε st, Rel Γ.T (kp X) W H st ∧ EnvR Γ X W H st.length σ ε ∧ PostS Γ X Wx W H st (whlS (tst Fc) F1 m ε st) D, fun σ' H' h => ⟨m, Nat.lt_succ_self _, h⟩, W1, ε, st1, rel1, env1, ?_⟩
        exact post_nxt p1 fun ε' st' W' H' σ' x' rel' env' p' => ⟨W', ε', st', rel', env', p'⟩
/-! ### what is walked -/
/-- an item that a walk gives: data; or a pair that was just made -/
def ItemR (X : Cx) (pr : Bool) (W : Wd) (H : Hp) (x : V) (d : PyData) (H' : Hp) : Prop := if pr then ∃ T vs ds, x = .ref T ∧ H T = none ∧ H' = upd H T (.tup vs) ∧ d = .tuple ds ∧ PlA (kp X) W.Hs vs ds else H' = H ∧ Pl (kp X) W.Hs x d
/-- how a later state lies behind the one at which a walk began -/
structure Aft (Γ : Gc) (X : Cx) (W : Wd) (n : Nat) (g : Option Gd) (W' : Wd) (H' : Hp) (st' : Sto) : Prop where
  hs : More W.Hs W'.Hs
  rho : ∀ l, l < n → W'.ρ l = W.ρ l
  rel : Rel Γ.T (kp X) W' H' st'
  gd : gdOk g st' = .ok () st'
structure ItD (Γ : Gc) (X : Cx) (pr : Bool) (W : Wd) (n : Nat) (J : It) (q : Option Gd × List PyData) : Prop where
  goes : ∀ W' H' st' i, Aft Γ X W n q.1 W' H' st' → i < q.2.length → J.go i H'
  stops : ∀ W' H' st', Aft Γ X W n q.1 W' H' st' → J.stop q.2.length H'
  yields : ∀ W' H' st' i x H'', Aft Γ X W n q.1 W' H' st' → i < q.2.length → J.yld i H' x H'' → ∃ d, q.2[i]? = some d ∧ ItemR X pr W' H' x d H''
def DI (Γ : Gc) (X : Cx) (pr : Bool) (tg iter : Expr) (F : Env → M (Option Gd × List PyData)) : Prop := ∀ Wx, Takes X Wx → PI X tg iter (fun σ H R => tG Γ X (fun W _ n J q => ItD Γ X pr W n J q) F Wx σ H R)
def DGp (Γ : Gc) (X : Cx) (vv : List Nat) (pr : Bool) (t : Expr) (F : PyData → Env → M Env) : Prop := if pr then DG2 Γ X vv t F else DG Γ X vv t F
theorem postS_gd {Wx : WX} {W : Wd} {H : Hp} {st : Sto} {D : Ends} {g : Option Gd} {f : Unit → M Fl} (p : PostS Γ X Wx W H st (M.bind (gdOk g) f st) D) : gdOk g st = .ok () st ∧ PostS Γ X Wx W H st (f () st) D := by
  unfold M.bind at p
  unfold gdOk at p ⊢
  cases g with
  | none => exact ⟨rfl, p⟩
  | some g =>
    simp only at p ⊢
    cases e : st[g.l]? with
    | none => rw [e] at p; exact p.elim
    | some c =>
      rw [e] at p
      cases c with
      | lst xs =>
        simp only at p ⊢
        cases h : dEqs xs g.xs with
        | true => rw [h] at p; exact ⟨rfl, p⟩
        | false => rw [h] at p; exact p.elim
      | dead => exact p.elim
      | dct tk ps => exact p.elim
theorem for_succ {f : PyData → Env → M Fl} {g : Option Gd} {x : PyData} {r : List PyData} {ε : Env} : forS f g (x :: r) ε = M.bind (f x ε) (nxtF fun ε' => M.bind (gdOk g) fun _ => forS f g r ε') := by
  have : nxtF (fun ε' => M.bind (gdOk g) fun _ => forS f g r ε') = fun w : Fl => (match w with
      | .nx ε' => M.bind (gdOk g) fun _ => forS f g r ε'
      | .ct ε' => M.bind (gdOk g) fun _ => forS f g r ε'
      | .bk ε' => M.pure (.nx ε')
      | .rt v => M.pure (.rt v)) := by
    funext w
    cases w <;> rfl
  rw [this]
  rfl
theorem Ext.aft {W W1 : Wd} {H H1 : Hp} {st st1 : Sto} {W0 : Wd} {n : Nat} {g g' : Option Gd} (a : Aft Γ X W0 n g W H st) (hn : n ≤ st.length) (x : Ext W H st W1 H1 st1) (rel : Rel Γ.T (kp X) W1 H1 st1) (h : gdOk g st1 = .ok () st1) : Aft Γ X W0 n g W1 H1 st1 :=
  ⟨a.hs.trans x.hs, fun l hl => (x.rho l (Nat.lt_of_lt_of_le hl hn)).trans (a.rho l hl), rel, h⟩
/-- what a target is to do -/
def tgP (Γ : Gc) (X : Cx) (vv : List Nat) (pr : Bool) (Ft : PyData → Env → M Env) (Wx : WX) : TG := if pr then (fun v σ H Q => ∃ W ε st T vs ds, Rel Γ.T (kp X) W H st ∧ EnvR Γ X W H st.length σ ε ∧ v = .ref T ∧ SqT X.K H T vs ∧ PlA (kp X) W.Hs vs ds ∧ PostG Γ X Wx (Sw vv σ) W H st (Ft (.tuple ds) ε st) Q)
      else (fun v σ H Q => ∃ W ε st d, Rel Γ.T (kp X) W H st ∧ EnvR Γ X W H st.length σ ε ∧ Pl (kp X) W.Hs v d ∧ PostG Γ X Wx (Sw vv σ) W H st (Ft d ε st) Q)
theorem DGp.pg {vv : List Nat} {pr : Bool} (h : DGp Γ X vv pr t Ft) (Wx : WX) (tk : Takes X Wx) : PG X t (tgP Γ X vv pr Ft Wx) := by
  cases pr with
  | true => exact h Wx tk
  | false => exact h Wx tk
theorem tgt_run {vv : List Nat} {pr : Bool} {Wx : WX} {W : Wd} {H H' : Hp} {st : Sto} {σ : L2.St} {ε : Env} {v : V} {d : PyData} {Q : L2.St → Hp → Prop}
    (rel : Rel Γ.T (kp X) W H st) (env : EnvR Γ X W H st.length σ ε) (hi : ItemR X pr W H v d H') (post : PostG Γ X Wx (Sw vv σ) W H st (Ft d ε st) Q) : tgP Γ X vv pr Ft Wx v σ H' Q := by
  cases pr with
  | false =>
    obtain ⟨rfl, hp⟩ := hi
    exact ⟨W, ε, st, d, rel, env, hp, post⟩
  | true =>
    obtain ⟨T, vs, ds, rfl, hT, rfl, rfl, hp⟩ := hi
    exact ⟨W, ε, st, T, vs, ds, rel.misc hT, env.ext rel (Ext.misc hT), rfl, .inl (.inl upd_same), hp, post.rebase (Ext.misc hT)⟩
theorem postS_bindG {S : L2.St → Prop} {Wx : WX} {W : Wd} {H : Hp} {st : Sto} {D : Ends} {m : M Env} {G : Env → M Fl} {Q : L2.St → Hp → Prop} (p : PostS Γ X Wx W H st (M.bind m G st) D)
    (h : ∀ ε' st' W' H' σ', Ext W H st W' H' st' → Rel Γ.T (kp X) W' H' st' → EnvR Γ X W' H' st'.length σ' ε' → PostS Γ X Wx W' H' st' (G ε' st') D → Q σ' H') : PostG Γ X Wx S W H st (m st) Q := by
  unfold M.bind at p
  cases e : m st with
  | ok ε1 st1 =>
    rw [e] at p
    exact fun W1 H1 x1 rel1 σ1 env1 _ => h ε1 st1 W1 H1 σ1 x1 rel1 env1 (PostS.rebase (o := G ε1 st1) p x1)
  | err ex st1 => rw [e] at p; exact p
  | bad => rw [e] at p; exact p
def forF (Fi : Env → M (Option Gd × List PyData)) (Ft : PyData → Env → M Env) (F1 : Env → M Fl) : Env → M Fl := fun ε => M.bind (Fi ε) fun q => M.bind (gdOk q.1) fun _ => forS (fun x ε => M.bind (Ft x ε) fun ε' => F1 ε') q.1 q.2 ε
theorem ds_for {vv : List Nat} {pr : Bool} {tg iter : Expr} {Fi : Env → M (Option Gd × List PyData)} (hp : PassesOwn (model X.prog X.w) X.A X.env X.xe) (hc : X.calm = true) (hi : DI Γ X pr tg iter Fi) (hg : DGp Γ X vv pr tg Ft) (hb : DSs Γ X ss F1) (hs : ∀ x, foldedSetIterable iter X.env x = pure x) :
    DS Γ X (.For tg iter ss [] pos) (forF Fi Ft F1) := fun Wx tk => by
  refine (ps_for hp hc (hi Wx tk) (hg.pg Wx tk) (hb Wx tk) hs).imp fun D σ H ⟨W, ε, st, rel, env, post⟩ => ?_
  refine tG_ofS rel env post fun J q W1 H1 st1 e1 x1 rel1 env1 r1 p1 => ?_
  obtain ⟨h0, p2⟩ := postS_gd p1
  refine ⟨fun i m σ H => m = q.2.length - i ∧ i ≤ q.2.length ∧ ∃ W' ε' st', Aft Γ X W1 st1.length q.1 W' H st' ∧ st1.length ≤ st'.length ∧ EnvR Γ X W' H st'.length σ ε' ∧ PostS Γ X Wx W' H st' (forS (fun x ε => M.bind (Ft x ε) fun ε' => F1 ε') q.1 (q.2.drop i) ε' st') D,
    ⟨q.2.length, rfl, Nat.zero_le _, W1, ε, st1, ⟨More.refl, fun _ _ => rfl, rel1, h0⟩, Nat.le_refl _, env1, p2⟩, ?_⟩
  rintro i m σ H ⟨rfl, hi, W', ε', st', af, hn, env', p'⟩
  by_cases hlt : i < q.2.length
  · refine .inr ⟨r1.goes W' H st' i af hlt, fun σ H => i + 1 ≤ q.2.length ∧ ∃ W' ε' st', Aft Γ X W1 st1.length q.1 W' H st' ∧ st1.length ≤ st'.length ∧ EnvR Γ X W' H st'.length σ ε' ∧ PostS Γ X Wx W' H st' (forS (fun x ε => M.bind (Ft x ε) fun ε' => F1 ε') q.1 (q.2.drop (i + 1)) ε' st') D,
      fun σ' H' h => ⟨q.2.length - (i + 1), by omega, rfl, h.1, h.2⟩, fun x H' y => ?_⟩
    obtain ⟨d, hd, hit⟩ := r1.yields W' H st' i x H' af hlt y
    rw [List.drop_eq_getElem_cons hlt, for_succ, M.bind_assoc] at p'
    have ed : q.2[i] = d := by
      rw [List.getElem?_eq_getElem hlt] at hd
      exact Option.some.inj hd
    rw [ed] at p'
    refine tgt_run af.rel env' hit ?_
    refine postS_bindG p' fun ε2 st2 W2 H2 σ2 x2 rel2 env2 p2 => ?_
    refine ⟨W2, ε2, st2, rel2, env2, ?_⟩
    refine post_nxt p2 fun ε3 st3 W3 H3 σ3 x3 rel3 env3 p3 => ?_
    obtain ⟨h3, p4⟩ := postS_gd p3
    have x23 := x2.trans x3
    exact ⟨hlt, W3, ε3, st3, Ext.aft (g' := none) af hn x23 rel3 h3, Nat.le_trans hn x23.len, env3, p4⟩
  · have e : i = q.2.length := by omega
    subst e
    refine .inl ⟨r1.stops W' H st' af, ?_⟩
    rw [List.drop_length] at p'
    exact go_nx p' af.rel env'
end
end Fx

set_option Elab.async false
set_option linter.all false
set_option maxRecDepth 100000
set_option maxHeartbeats 4000000
/-! Fx21: what is walked: lists, tuples, texts, enumerate, zip, ranges. -/
namespace Fx
open PySem PySem.Spec PyProof.Rows L2 NdefX LamX
/-! ### a list or a tuple -/
def SQ (b : Bool) (K : PySem.W.Frag) (H : Hp) (a : Addr) (xs : List V) : Prop := if b then SqL K H a xs else SqT K H a xs
def SIt (b : Bool) (h : Heap) (it a : Addr) (i : Nat) : Prop := if b then h.IsListIter it a i else h.IsTupleIter it a i
def SIs (b : Bool) (h : Heap) (a : Addr) (items : Array Value) : Prop := if b then h.IsList a items else h.IsTuple a items
def sitO (b : Bool) (a : Addr) : PySem.Obj := { cls := .type (if b then "list_iterator" else "tuple_iterator"), data := .fields #[.ref a, .int 0 0] }
section
variable {prog : Program} {w : World} {A : Around}
theorem draws_s (b : Bool) (hh : A.handled = none) (it a : Addr) (hne : a ≠ it) (items : Array Value) : Draws prog w A it [it, a] items.size (fun i v => items[i]? = some v) (fun i h => SIt b h it a i ∧ SIs b h a items) := by
  cases b with
  | true => exact Draws.list hh it a hne items
  | false => exact Draws.tuple hh it a hne items
theorem begins_s (b : Bool) (a : Addr) (items : Array Value) : Begins (.ref a) (sitO b a) fun h => SIs b h a items := by
  cases b with
  | true => exact begins_list a items
  | false => exact begins_tuple a items
theorem SIt.of {b : Bool} {h : Heap} {it a : Addr} (e : h.get? it = some (sitO b a)) : SIt b h it a 0 := by
  cases b with
  | true => exact ⟨_, e, rfl, rfl⟩
  | false => exact ⟨_, e, rfl, rfl⟩
theorem SIt.at {b : Bool} {h h' : Heap} {it a : Addr} {i : Nat} (x : SIt b h it a i) (k : ∀ o, h.get? it = some o → h'.get? it = some o) : SIt b h' it a i := by
  cases b with
  | true => exact Heap.IsListIter.at (x : h.IsListIter it a i) k
  | false => exact Heap.IsTupleIter.at (x : h.IsTupleIter it a i) k
theorem SIt.obj {b : Bool} {h : Heap} {it a : Addr} {i : Nat} (x : SIt b h it a i) : ∃ o, h.get? it = some o ∧ ∃ vs, o.data = .fields vs := by
  cases b with
  | true => obtain ⟨o, h1, _, h3⟩ := x; exact ⟨o, h1, _, h3⟩
  | false => obtain ⟨o, h1, _, h3⟩ := x; exact ⟨o, h1, _, h3⟩
theorem SIs.obj {b : Bool} {h : Heap} {a : Addr} {items : Array Value} (x : SIs b h a items) : ∃ o, h.get? a = some o ∧ ∃ n, o.data = .seq items n := by
  cases b with
  | true => obtain ⟨o, h1, _, n, h3⟩ := x; exact ⟨o, h1, _, h3⟩
  | false => obtain ⟨o, h1, _, n, h3⟩ := x; exact ⟨o, h1, _, h3⟩
end
section
variable {X : Cx} {pins : List (Addr × PySem.Obj)} {σ : L2.St} {H : Hp} {s : Shared} {a : Addr} {xs ys : List V} {b : Bool}
theorem Inv.sq (I : Inv X pins σ H s) (h : SQ b X.K H a xs) : ∃ its : List Value, Vals xs its ∧ SIs b s.heap a its.toArray ∧ xs.length ≤ sizeLine := by
  cases b with
  | true => obtain ⟨its, r, p, z⟩ := I.list h; exact ⟨its, r, p.isList, z⟩
  | false => obtain ⟨its, r, p, z⟩ := I.tuple h; exact ⟨its, r, p, z⟩
theorem Inv.sq_inj (I : Inv X pins σ H s) (h : SQ b X.K H a xs) (h' : SQ b X.K H a ys) : xs = ys := by
  cases b with
  | true => exact I.list_inj h h'
  | false => exact I.tuple_inj h h'
end
/-! ### one after another -/
def ItS (b : Bool) (K : PySem.W.Frag) (a : Addr) : It := if b then Itl K a else Itt K a
/-! ### enumerate -/
def ItE (b : Bool) (K : PySem.W.Frag) (a : Addr) : It :=
  ⟨fun i H => ∃ (xs : List V) (x : V), SQ b K H a xs ∧ xs[i]? = some x, fun i H v H' => ∃ T x, v = .ref T ∧ H T = none ∧ H' = upd H T (.tup [.int (i : Nat), x]) ∧ ∀ xs, SQ b K H a xs → xs[i]? = some x, fun i H => ∃ xs : List V, SQ b K H a xs ∧ xs.length = i⟩
theorem turn_enumS {P : Program} {w : World} {K : PySem.W.Frag} {elts : List Expr} {kk : Nat} {tpos : Pos} (b : Bool) (a e it : Addr) :
    Turn P w K (.Tuple elts kk tpos) (ItE b K a) [e, it] e (fun i h => (∃ old, IsEnum h e it ((i : Nat) : Int) old) ∧ SIt b h it a i ∧ e ≠ it) where
  mem := by simp
  obj := fun i h st c hc => by
    obtain ⟨⟨old, he⟩, hi, _⟩ := st
    obtain ⟨o, ho, vs, hd⟩ := hi.obj
    have e' : c = e ∨ c = it := by simpa using hc
    rcases e' with z | z
    · rw [z]; exact ⟨_, he, fun v q => nomatch q⟩
    · rw [z]; exact ⟨o, ho, fun v q => by rw [hd] at q; cases q⟩
  keep := fun i h h' st k => let ⟨⟨old, he⟩, hi, hne⟩ := st; ⟨⟨old, k e (by simp) _ he⟩, hi.at fun o q => k it (by simp) o q, hne⟩
  item := by
    intro X hP hw hK hc i pins s σ H E I hf st hg
    subst hP hw hK
    obtain ⟨⟨old, he⟩, hit, hne⟩ := st
    obtain ⟨xs, x, hq, hx⟩ := hg
    obtain ⟨its, rv, p, hz⟩ := Inv.sq I hq
    obtain ⟨u, hu, ru⟩ := rv.get hx
    have hel : e < s.heap.objs.size := Heap.lt_size he
    obtain ⟨oit, hoit, vit, hdit⟩ := hit.obj
    obtain ⟨oa, hoa, na, hda⟩ := p.obj
    have hil : it < s.heap.objs.size := Heap.lt_size hoit
    have hai : a ≠ it := fun z => by rw [z, hoit] at hoa; cases hoa; rw [hdit] at hda; cases hda
    have hea : e ≠ a := fun z => by rw [← z, he] at hoa; cases hoa; cases hda
    have hui : i < its.toArray.size := by
      have := (List.getElem?_eq_some_iff.mp hu).1
      simpa using this
    refine wpAny_pyNext_enum_itemD (draws_s (A := X.A.in1) b (I.ok.hd hc) it a hai its.toArray) he ⟨hit, p⟩ hui hne (by simp [hne, hea]) fun x1 h' tk hx1 ho hit' hT hsz hk => ?_
    have ex : x1 = u := by
      have hx1 : its.toArray[i]? = some x1 := hx1
      have : its[i]? = some x1 := by simpa using hx1
      rw [hu] at this
      exact (Option.some.inj this).symm
    subst ex
    refine ⟨_, rfl, wpAny_letOwnedTupleGo_enum (s := { s with heap := h', toks := tk + 1 }) ho fun h'' he' sb => ?_⟩
    have hT2 : h''.get? s.heap.objs.size = some { cls := .type "tuple", data := .seq #[.int i tk, x1] } := (sb.2 _ (Nat.ne_of_gt hel)).trans hT
    have new : ObjOk X.prog X.w (upd H s.heap.objs.size (.tup [.int (i : Nat), x])) h'' s.heap.objs.size (.tup [.int (i : Nat), x]) :=
      ⟨by show 2 ≤ sizeLine; decide, [.int i tk, x1], .cons ⟨_, rfl⟩ (.cons ru .nil), ⟨_, hT2, rfl, _, rfl⟩⟩
    have I1 : Inv X pins σ (upd H s.heap.objs.size (.tup [.int (i : Nat), x])) { s with heap := h'', toks := tk + 1 } :=
      I.turnedNew (ch := [e, it]) (fun c ob hb q => (sb.2 c (fun z => hb (by simp [z]))).trans (hk c ob (fun z => hb (by simp [z])) (fun z => hb (by simp [z])) q)) hf (Nat.le_refl _) new
    refine ⟨.ref s.heap.objs.size, _, I1, rfl, ⟨_, x, rfl, I.hok.fresh (Nat.le_refl _), rfl, fun ys hy => by rw [Inv.sq_inj I hy hq]; exact hx⟩, ⟨⟨x1, ?_⟩, hit'.1.at fun o q => (sb.2 it (Ne.symm hne)).trans q, hne⟩, fun c hb => ?_⟩
    · have e1 : ((i + 1 : Nat) : Int) = (i : Int) + 1 := by omega
      rw [e1]; exact he'
    · have hb' : c < s.heap.objs.size := by
        have e' : c = e ∨ c = it := by simpa using hb
        rcases e' with z | z
        · rw [z]; exact hel
        · rw [z]; exact hil
      rw [upd_ne (Nat.ne_of_lt hb')]
      exact (hf c hb).1
  done := by
    intro X hP hw hK hc i pins s σ H E I hf st hg
    subst hP hw hK
    obtain ⟨⟨old, he⟩, hit, hne⟩ := st
    obtain ⟨xs, hq, hx⟩ := hg
    obtain ⟨its, rv, p, hz⟩ := Inv.sq I hq
    obtain ⟨f0, f1, f2, f3, f4, f5⟩ := hf it (by simp)
    have hl := rv.length
    obtain ⟨oit, hoit, vit, hdit⟩ := hit.obj
    obtain ⟨oa, hoa, na, hda⟩ := p.obj
    have hai : a ≠ it := fun z => by rw [z, hoit] at hoa; cases hoa; rw [hdit] at hda; cases hda
    have hn : its.toArray.size = i := by rw [List.size_toArray]; omega
    refine wpAny_pyNext_enum_endD (draws_s (A := X.A.in1) b (I.ok.hd hc) it a hai its.toArray) he (by rw [hn]; exact ⟨hit, p⟩) fun h' eb => ⟨rfl, I.turned (t' := s.toks) (fun c o hb q => eb c o hb q) f0 f1 f3 f4 f5⟩
  self := fun A i s Q E st h => let ⟨⟨_, he⟩, _⟩ := st; wpAny_pyIter_enum he h
theorem meets_enum1 {v : Value} {o : PySem.Obj} {H : Heap → Prop} (B : Begins v o H) :
    Meets (Builtin.«enumerate.__new__» ⟨[.type "enumerate", v], []⟩) (fun _ R s => H s.heap ∧
      R (.ok (.ret (.ref (s.heap.push o).objs.size))) { s with heap := (s.heap.push o).push { cls := .type "enumerate", data := .fields #[.none, .bool false, .ref s.heap.objs.size, rawInt 0, .none, .none] } }) :=
  .of_wp fun prog w A R s h => by
    obtain ⟨hp, g, d, tk, os⟩ := s; obtain ⟨h1, h⟩ := h
    have hsub := sub_enumerate
    have q1 : ∀ {A' : Around} {E : Value → Shared → Prop} {Q : Value → Shared → Prop}, Q (.ref hp.objs.size) ⟨hp.push o, g, d, tk, os⟩ → wpAny (model prog w) A' (pyIter v) Q E ⟨hp, g, d, tk, os⟩ :=
      fun q => B.iter prog w _ _ ⟨hp, g, d, tk, os⟩ _ h1 q
    wp_walk using q1
    refine wpAny_stack_any fun st => wpAny_pure ?_
    split
    · rename_i c _ _ _ _ _
      cases (c == Value.type "enumerate")
      · wp_walk using q1
        exact ⟨_, rfl, h⟩
      · wp_walk using q1
        exact ⟨_, rfl, h⟩
    · wp_walk using q1
      exact ⟨_, rfl, h⟩
theorem enum1_begins {prog : Program} {w : World} {A : Around} {E : Value → Shared → Prop} {s : Shared} {v : Value} {o : PySem.Obj} {H : Heap → Prop} {Q : Value → Shared → Prop} (B : Begins v o H) (h1 : H s.heap)
    (h : ∀ h', IsEnum h' (s.heap.objs.size + 1) s.heap.objs.size 0 .none → h'.get? s.heap.objs.size = some o → (∀ b o, s.heap.get? b = some o → h'.get? b = some o) → Q (.ref (s.heap.objs.size + 1)) { s with heap := h' }) :
    wpAny (model prog w) A (call (.type "enumerate") [v]) Q E s := by
  refine callType_new F.called_enumerate (by decide) (F.typeCall_enumerate_1 _) (F.newCall_enumerate_1 _) (fun obj => F.args_object_init_2 obj _) F.entry_enumerate_new (meets_enum1 B) ⟨h1, ?_⟩
  have hz : (s.heap.push o).objs.size = s.heap.objs.size + 1 := Heap.size_push ..
  show _ ∧ _
  rw [hz]
  have he : IsEnum ((s.heap.push o).push { cls := .type "enumerate", data := .fields #[.none, .bool false, .ref s.heap.objs.size, rawInt 0, .none, .none] }) (s.heap.objs.size + 1) s.heap.objs.size 0 .none := by
    have := Heap.get?_push_size (s.heap.push o) (o := { cls := .type "enumerate", data := .fields #[.none, .bool false, .ref s.heap.objs.size, rawInt 0, .none, .none] }) rfl
    rw [hz] at this; exact this
  exact ⟨⟨_, he, rfl⟩, h _ he (Heap.get?_push_of_some _ (Heap.get?_push_size _ B.free)) fun b o x => Heap.get?_push_of_some _ (Heap.get?_push_of_some _ x)⟩
/-! ### zip -/
def ItZ (b c : Bool) (K : PySem.W.Frag) (a a2 : Addr) : It :=
  ⟨fun i H => ∃ (xs ys : List V) (x y : V), SQ b K H a xs ∧ SQ c K H a2 ys ∧ xs[i]? = some x ∧ ys[i]? = some y,
    fun i H v H' => ∃ T x y, v = .ref T ∧ H T = none ∧ H' = upd H T (.tup [x, y]) ∧ (∀ xs, SQ b K H a xs → xs[i]? = some x) ∧ ∀ ys, SQ c K H a2 ys → ys[i]? = some y,
    fun i H => ∃ xs ys : List V, SQ b K H a xs ∧ SQ c K H a2 ys ∧ i ≤ xs.length ∧ i ≤ ys.length ∧ (i = xs.length ∨ i = ys.length)⟩
/-- the cells of a zip -/
structure ZA (z TI TO i1 i2 : Addr) : Prop where
  a : TI ≠ z
  b : TO ≠ z
  c : TI ≠ TO
  d : TI ≠ i1
  e : TI ≠ i2
  f : i1 ≠ z
  g : i2 ≠ z
  h : i1 ≠ TO
  i : i2 ≠ TO
  j : i1 ≠ i2
theorem zip_sepS {z TI TO i1 i2 a a2 : Addr} (D : ZA z TI TO i1 i2) (h1 : z ≠ a) (h2 : TO ≠ a) (h3 : z ≠ a2) (h4 : TO ≠ a2) (h5 : i1 ≠ a2) (h6 : i2 ≠ a) : ZipSep2 z TI TO i1 i2 [i1, a] [i2, a2] :=
  { TIz := D.a, TOz := D.b, TITO := D.c, TIi1 := D.d, mem1 := by simp, zf1 := by simp [D.f.symm, h1], Tf1 := by simp [D.h.symm, h2], TIi2 := D.e, mem2 := by simp, zf2 := by simp [D.g.symm, h3], Tf2 := by simp [D.i.symm, h4],
    sep1_2 := by simp [D.j, h5], sep2_1 := by simp [D.j.symm, h6] }
theorem turn_zipS {P : Program} {w : World} {K : PySem.W.Frag} {elts : List Expr} {kk : Nat} {tpos : Pos} {b c : Bool} {a a2 z TI TO i1 i2 : Addr} (D : ZA z TI TO i1 i2) (hTa : TO ≠ a) (hTa2 : TO ≠ a2) :
    Turn P w K (.Tuple elts kk tpos) (ItZ b c K a a2) [z, TI, TO, i1, i2] z (fun i h => IsZip h z TI TO .none ∧ IsPair h TI (.ref i1) (.ref i2) ∧ (∃ x y, IsPair h TO x y) ∧ SIt b h i1 a i ∧ SIt c h i2 a2 i) where
  mem := by simp
  obj := fun i h st c hc => by
    obtain ⟨hz, hTI, ⟨x, y, hTO⟩, hi1, hi2⟩ := st
    obtain ⟨o1, e1, _, d1⟩ := hi1.obj
    obtain ⟨o2, e2, _, d2⟩ := hi2.obj
    have e' : c = z ∨ c = TI ∨ c = TO ∨ c = i1 ∨ c = i2 := by simpa using hc
    rcases e' with q | q | q | q | q
    · rw [q]; exact ⟨_, hz, fun v q => nomatch q⟩
    · rw [q]; exact ⟨_, hTI, fun v q => nomatch q⟩
    · rw [q]; exact ⟨_, hTO, fun v q => nomatch q⟩
    · rw [q]; exact ⟨o1, e1, fun v q => by rw [d1] at q; cases q⟩
    · rw [q]; exact ⟨o2, e2, fun v q => by rw [d2] at q; cases q⟩
  keep := fun i h h' st k => by
    obtain ⟨hz, hTI, ⟨x, y, hTO⟩, h1, h2⟩ := st
    exact ⟨k z (by simp) _ hz, k TI (by simp) _ hTI, ⟨x, y, k TO (by simp) _ hTO⟩, h1.at fun o q => k i1 (by simp) o q, h2.at fun o q => k i2 (by simp) o q⟩
  item := by
    intro X hP hw hK hc i pins s σ H E I hf st hg
    subst hP hw hK
    obtain ⟨hz, hTI, ⟨x0, y0, hTO⟩, h1, h2⟩ := st
    obtain ⟨xs, ys, x, y, hqx, hqy, hx, hy⟩ := hg
    obtain ⟨its, rv, p, _⟩ := Inv.sq I hqx
    obtain ⟨its2, rv2, p2, _⟩ := Inv.sq I hqy
    obtain ⟨u, hu, ru⟩ := rv.get hx
    obtain ⟨u2, hu2, ru2⟩ := rv2.get hy
    have hzl : z < s.heap.objs.size := Heap.lt_size hz
    obtain ⟨oi1, hoi1, vi1, hdi1⟩ := h1.obj
    obtain ⟨oi2, hoi2, vi2, hdi2⟩ := h2.obj
    obtain ⟨oa, hoa, na, hda⟩ := p.obj
    obtain ⟨oa2, hoa2, na2, hda2⟩ := p2.obj
    have S : ZipSep2 z TI TO i1 i2 [i1, a] [i2, a2] := zip_sepS D (fun q => by rw [← q, hz] at hoa; cases hoa; cases hda) hTa (fun q => by rw [← q, hz] at hoa2; cases hoa2; cases hda2) hTa2
      (fun q => by rw [← q, hoi1] at hoa2; cases hoa2; rw [hdi1] at hda2; cases hda2) (fun q => by rw [← q, hoi2] at hoa; cases hoa; rw [hdi2] at hda; cases hda)
    have hai : a ≠ i1 := fun q => by rw [q, hoi1] at hoa; cases hoa; rw [hdi1] at hda; cases hda
    have hai2 : a2 ≠ i2 := fun q => by rw [q, hoi2] at hoa2; cases hoa2; rw [hdi2] at hda2; cases hda2
    have hui : i < its.toArray.size := by
      have := (List.getElem?_eq_some_iff.mp hu).1
      simpa using this
    have hui2 : i < its2.toArray.size := by
      have := (List.getElem?_eq_some_iff.mp hu2).1
      simpa using this
    refine wpAny_pyNext_zipD2_item S (draws_s (A := X.A.in1) b (I.ok.hd hc) i1 a hai its.toArray) (draws_s (A := X.A.in1) c (I.ok.hd hc) i2 a2 hai2 its2.toArray) hz hTI hTO ⟨h1, p⟩ ⟨h2, p2⟩ hui hui2 fun x1 x2 h' tk hx1 hx2 z' TO' h1' h2' hT hsz hk => ?_
    have ex1 : x1 = u := by
      have hx1 : its.toArray[i]? = some x1 := hx1
      have : its[i]? = some x1 := by simpa using hx1
      rw [hu] at this
      exact (Option.some.inj this).symm
    have ex2 : x2 = u2 := by
      have hx2 : its2.toArray[i]? = some x2 := hx2
      have : its2[i]? = some x2 := by simpa using hx2
      rw [hu2] at this
      exact (Option.some.inj this).symm
    subst ex1 ex2
    refine ⟨_, rfl, wpAny_letOwnedTupleGo_zip (s := { s with heap := h', toks := tk }) z' fun h'' z'' sb => ?_⟩
    have hT2 : h''.get? s.heap.objs.size = some { cls := .type "tuple", data := .seq #[x1, x2] } := (sb.2 _ (Nat.ne_of_gt hzl)).trans hT
    have new : ObjOk X.prog X.w (upd H s.heap.objs.size (.tup [x, y])) h'' s.heap.objs.size (.tup [x, y]) :=
      ⟨by show 2 ≤ sizeLine; decide, [x1, x2], .cons ru (.cons ru2 .nil), ⟨_, hT2, rfl, _, rfl⟩⟩
    have I1 : Inv X pins σ (upd H s.heap.objs.size (.tup [x, y])) { s with heap := h'', toks := tk } :=
      I.turnedNew (ch := [z, TI, TO, i1, i2]) (fun c o hb q => (sb.2 c (fun q' => hb (by simp [q']))).trans (hk c o (fun q' => hb (by simp [q'])) (fun q' => hb (by simp [q'])) (fun q' => hb (by simp [q'])) (fun q' => hb (by simp [q'])) q)) hf (Nat.le_refl _) new
    refine ⟨.ref s.heap.objs.size, _, I1, rfl, ⟨_, x, y, rfl, I.hok.fresh (Nat.le_refl _), rfl, fun l hl => by rw [Inv.sq_inj I hl hqx]; exact hx, fun l hl => by rw [Inv.sq_inj I hl hqy]; exact hy⟩, ⟨z'', ?_, ⟨x1, x2, ?_⟩, ?_, ?_⟩, fun c hcm => ?_⟩
    · exact (sb.2 _ D.a).trans (hk _ _ D.a D.c D.d D.e hTI)
    · exact (sb.2 _ D.b).trans TO'
    · exact h1'.1.at fun o q => (sb.2 _ D.f).trans q
    · exact h2'.1.at fun o q => (sb.2 _ D.g).trans q
    · have hlt : c < s.heap.objs.size := by
        have e' : c = z ∨ c = TI ∨ c = TO ∨ c = i1 ∨ c = i2 := by simpa using hcm
        rcases e' with q | q | q | q | q
        · rw [q]; exact hzl
        · rw [q]; exact Heap.lt_size hTI
        · rw [q]; exact Heap.lt_size hTO
        · rw [q]; exact Heap.lt_size hoi1
        · rw [q]; exact Heap.lt_size hoi2
      rw [upd_ne (Nat.ne_of_lt hlt)]
      exact (hf c hcm).1
  done := by
    intro X hP hw hK hc i pins s σ H E I hf st hg
    subst hP hw hK
    obtain ⟨hz, hTI, ⟨x0, y0, hTO⟩, h1, h2⟩ := st
    obtain ⟨xs, ys, hqx, hqy, hl1, hl2, hend⟩ := hg
    obtain ⟨its, rv, p, _⟩ := Inv.sq I hqx
    obtain ⟨its2, rv2, p2, _⟩ := Inv.sq I hqy
    have l1 := rv.length
    have l2 := rv2.length
    obtain ⟨oi1, hoi1, vi1, hdi1⟩ := h1.obj
    obtain ⟨oi2, hoi2, vi2, hdi2⟩ := h2.obj
    obtain ⟨oa, hoa, na, hda⟩ := p.obj
    obtain ⟨oa2, hoa2, na2, hda2⟩ := p2.obj
    have S : ZipSep2 z TI TO i1 i2 [i1, a] [i2, a2] := zip_sepS D (fun q => by rw [← q, hz] at hoa; cases hoa; cases hda) hTa (fun q => by rw [← q, hz] at hoa2; cases hoa2; cases hda2) hTa2
      (fun q => by rw [← q, hoi1] at hoa2; cases hoa2; rw [hdi1] at hda2; cases hda2) (fun q => by rw [← q, hoi2] at hoa; cases hoa; rw [hdi2] at hda; cases hda)
    have hai : a ≠ i1 := fun q => by rw [q, hoi1] at hoa; cases hoa; rw [hdi1] at hda; cases hda
    have hai2 : a2 ≠ i2 := fun q => by rw [q, hoi2] at hoa2; cases hoa2; rw [hdi2] at hda2; cases hda2
    have n1 : its.toArray.size = xs.length := by rw [List.size_toArray]; omega
    have n2 : its2.toArray.size = ys.length := by rw [List.size_toArray]; omega
    exact wpAny_pyNext_zipD2_end S (draws_s (A := X.A.in1) b (I.ok.hd hc) i1 a hai its.toArray) (draws_s (A := X.A.in1) c (I.ok.hd hc) i2 a2 hai2 its2.toArray) hz hTI hTO ⟨h1, p⟩ ⟨h2, p2⟩ (by rw [n1]; exact hl1) (by rw [n2]; exact hl2) (by rw [n1, n2]; exact hend) fun h' tk hk => ⟨rfl, I.turnedL (t' := tk) (ch := [z, TI, TO, i1, i2]) (fun c o hb q =>
      hk c o (fun q' => hb (by simp [q'])) (fun q' => hb (by simp [q'])) (fun q' => hb (by simp [q'])) (fun q' => hb (by simp [q'])) q) hf⟩
  self := fun A i s Q E st h => wpAny_pyIter_zip st.1 h
end Fx

set_option Elab.async false
set_option linter.all false
set_option maxRecDepth 100000
set_option maxHeartbeats 4000000
/-! Fx22: what stands behind in, by values. -/
namespace Fx
open PySem PySem.Spec PyProof.Rows L2 NdefX LamX
mutual
theorem dEq_eq : ∀ (x y : PyData), dEq x y = true → x = y
  | .none, y, h => by cases y <;> first | rfl | (simp [dEq] at h)
  | .bool a, y, h => by cases y <;> simp [dEq] at h; rw [h]
  | .int a, y, h => by cases y <;> simp [dEq] at h; rw [h]
  | .str a, y, h => by cases y <;> simp [dEq] at h; rw [h]
  | .list xs, y, h => by
    cases y with
    | list ys => simp only [dEq] at h; rw [dEqs_eq xs ys h]
    | _ => simp [dEq] at h
  | .tuple xs, y, h => by
    cases y with
    | tuple ys => simp only [dEq] at h; rw [dEqs_eq xs ys h]
    | _ => simp [dEq] at h
  | .dict _, y, h => by cases y <;> simp [dEq] at h
theorem dEqs_eq : ∀ (x y : List PyData), dEqs x y = true → x = y
  | [], [], _ => rfl
  | [], _ :: _, h => by simp [dEqs] at h
  | _ :: _, [], h => by simp [dEqs] at h
  | x :: xs, y :: ys, h => by
    simp only [dEqs, Bool.and_eq_true] at h
    rw [dEq_eq x y h.1, dEqs_eq xs ys h.2]
end
section
variable {Γ : Gc} {X : Cx} {k : Nat} {a b c e : Expr} {es rest : List Expr} {pos p p2 tpos : Pos} {elts : List Expr} {kk : Nat} {Fa Fb Fc : Env → M Val} {W : Wd} {H : Hp} {st : Sto} {A A2 : Addr} {vs ws : List V} {xs ys : List PyData} {bb : Bool} {tg : Expr}
/-- what stays readable while a walk lasts -/
def Stays (Γ : Gc) (X : Cx) (b : Bool) (W : Wd) (n : Nat) (g : Option Gd) (a : Addr) (xs : List PyData) : Prop := ∀ W' H' st', Aft Γ X W n g W' H' st' → ∃ vs, SQ b X.K H' a vs ∧ PlA (kp X) W'.Hs vs xs
theorem stays_list {n : Nat} {g : Option Gd} (h : Pl (kp X) W.Hs (.ref A) (.list xs)) : Stays Γ X true W n g A xs := fun W' H' st' a => by
  cases h.more a.hs with
  | lst h1 h2 h3 => exact ⟨_, .inl (a.rel.sub.rd (fun _ _ z => by cases z) h1), h3⟩
theorem stays_tup {n : Nat} {g : Option Gd} (h : Pl (kp X) W.Hs (.ref A) (.tuple xs)) : Stays Γ X false W n g A xs := fun W' H' st' a => by
  cases h.more a.hs with
  | tup h1 h2 h3 h4 => exact ⟨_, .inl (.inr ⟨_, a.rel.sub.tup h1⟩), h4⟩
theorem stays_o {l n : Nat} (hl : l < n) : Stays Γ X true W n (some ⟨l, xs⟩) (W.ρ l) xs := fun W' H' st' a => by
  have hg := a.gd
  unfold gdOk at hg
  simp only at hg
  cases e : st'[l]? with
  | none => rw [e] at hg; cases hg
  | some c =>
    rw [e] at hg
    cases c with
    | lst ys =>
      simp only at hg
      cases h : dEqs ys xs with
      | false => rw [h] at hg; cases hg
      | true =>
        have := dEqs_eq _ _ h
        subst this
        obtain ⟨vs, h1, hz, q⟩ := cel_lst a.rel e
        rw [a.rho l hl] at h1
        exact ⟨vs, .inl (.of h1), q⟩
    | dead => cases hg
    | dct tk ps => cases hg
theorem itd_s {b : Bool} {n : Nat} {g : Option Gd} (h : Stays Γ X b W n g A xs) : ItD Γ X false W n (ItS b X.K A) (g, xs) where
  goes := fun W' H' st' i af hi => by
    obtain ⟨vs, h1, q⟩ := h W' H' st' af
    have hi' : i < vs.length := by rw [q.length]; exact hi
    cases b with
    | true => exact ⟨vs, vs[i], h1, by simp [hi']⟩
    | false => exact ⟨vs, vs[i], h1, by simp [hi']⟩
  stops := fun W' H' st' af => by
    obtain ⟨vs, h1, q⟩ := h W' H' st' af
    have hi' : vs.length ≤ xs.length := by rw [q.length]; exact Nat.le_refl _
    cases b with
    | true => exact ⟨vs, h1, hi'⟩
    | false => exact ⟨vs, h1, hi'⟩
  yields := fun W' H' st' i x H'' af hi y => by
    obtain ⟨vs, h1, q⟩ := h W' H' st' af
    have y' : H'' = H' ∧ vs[i]? = some x := by
      cases b with
      | true => exact ⟨y.1, y.2 vs h1⟩
      | false => exact ⟨y.1, y.2 vs h1⟩
    obtain ⟨d, hd, hp⟩ := q.getV y'.2
    exact ⟨d, hd, y'.1, hp⟩
theorem len_num : ∀ (k : Nat) (xs : List PyData), (numL k xs).length = xs.length
  | _, [] => rfl
  | k, x :: xs => by unfold numL; rw [List.length_cons, List.length_cons, len_num]
theorem at_num : ∀ (k : Nat) (xs : List PyData) (i : Nat) (d : PyData), xs[i]? = some d → (numL k xs)[i]? = some (.tuple [.int ((k + i : Nat) : Int), d])
  | _, [], _, _, h => by simp at h
  | k, x :: xs, 0, d, h => by simp at h; subst h; unfold numL; simp
  | k, x :: xs, i + 1, d, h => by
    unfold numL
    have := at_num (k + 1) xs i d (by simpa using h)
    rw [List.getElem?_cons_succ, this]
    have e : k + 1 + i = k + (i + 1) := by omega
    rw [e]
theorem itd_e {b : Bool} {n : Nat} {g : Option Gd} (h : Stays Γ X b W n g A xs) : ItD Γ X true W n (ItE b X.K A) (g, numL 0 xs) where
  goes := fun W' H' st' i af hi => by
    have hi : i < (numL 0 xs).length := hi
    rw [len_num] at hi
    obtain ⟨vs, h1, q⟩ := h W' H' st' af
    have hi' : i < vs.length := by rw [q.length]; exact hi
    exact ⟨vs, vs[i], h1, by simp [hi']⟩
  stops := fun W' H' st' af => by
    obtain ⟨vs, h1, q⟩ := h W' H' st' af
    exact ⟨vs, h1, by show vs.length = (numL 0 xs).length; rw [len_num, q.length]⟩
  yields := fun W' H' st' i x H'' af hi y => by
    obtain ⟨vs, h1, q⟩ := h W' H' st' af
    obtain ⟨T, u, rfl, hT, rfl, hx⟩ := y
    obtain ⟨d, hd, hp⟩ := q.getV (hx vs h1)
    refine ⟨.tuple [.int (i : Nat), d], ?_, T, [.int (i : Nat), u], [.int (i : Nat), d], rfl, hT, rfl, rfl, .cons (.int _) (.cons hp .nil)⟩
    have := at_num 0 xs i d hd
    rwa [Nat.zero_add] at this
theorem at_pair {i : Nat} {d f : PyData} (h1 : xs[i]? = some d) (h2 : ys[i]? = some f) : (pairL xs ys)[i]? = some (.tuple [d, f]) := by
  unfold pairL
  rw [List.getElem?_map, List.getElem?_zip_eq_some (z := (d, f)) |>.mpr ⟨h1, h2⟩]
  rfl
theorem len_pair : (pairL xs ys).length = min xs.length ys.length := by
  unfold pairL
  rw [List.length_map, List.length_zip]
theorem itd_z {b c : Bool} {n : Nat} {g : Option Gd} (h : Stays Γ X b W n g A xs) (h2 : Stays Γ X c W n g A2 ys) : ItD Γ X true W n (ItZ b c X.K A A2) (g, pairL xs ys) where
  goes := fun W' H' st' i af hi => by
    have hi : i < (pairL xs ys).length := hi
    rw [len_pair] at hi
    obtain ⟨vs, h1, q⟩ := h W' H' st' af
    obtain ⟨ws, h3, q2⟩ := h2 W' H' st' af
    have hi1 : i < vs.length := by rw [q.length]; omega
    have hi2 : i < ws.length := by rw [q2.length]; omega
    exact ⟨vs, ws, vs[i], ws[i], h1, h3, by simp [hi1], by simp [hi2]⟩
  stops := fun W' H' st' af => by
    obtain ⟨vs, h1, q⟩ := h W' H' st' af
    obtain ⟨ws, h3, q2⟩ := h2 W' H' st' af
    refine ⟨vs, ws, h1, h3, ?_, ?_, ?_⟩
    · show (pairL xs ys).length ≤ _
      rw [len_pair, q.length]; omega
    · show (pairL xs ys).length ≤ _
      rw [len_pair, q2.length]; omega
    · show (pairL xs ys).length = _ ∨ (pairL xs ys).length = _
      rw [len_pair, q.length, q2.length]; omega
  yields := fun W' H' st' i x H'' af hi y => by
    obtain ⟨vs, h1, q⟩ := h W' H' st' af
    obtain ⟨ws, h3, q2⟩ := h2 W' H' st' af
    obtain ⟨T, u, w, rfl, hT, rfl, hx, hy⟩ := y
    obtain ⟨d, hd, hp⟩ := q.getV (hx vs h1)
    obtain ⟨f, hf, hp2⟩ := q2.getV (hy ws h3)
    exact ⟨.tuple [d, f], at_pair hd hf, T, [u, w], [d, f], rfl, hT, rfl, rfl, .cons hp (.cons hp2 .nil)⟩
theorem itd_r {lo : Int} {m n : Nat} : ItD Γ X false W n (Itr lo m) (none, rngL lo m 1) where
  goes := fun W' H' st' i af hi => by
    have hi : i < (rngL lo m 1).length := hi
    unfold rngL at hi
    rw [List.length_map, List.length_range] at hi
    exact hi
  stops := fun W' H' st' af => by
    show m ≤ (rngL lo m 1).length
    unfold rngL
    rw [List.length_map, List.length_range]
    exact Nat.le_refl _
  yields := fun W' H' st' i x H'' af hi y => by
    have hi : i < (rngL lo m 1).length := hi
    have hi2 := hi
    unfold rngL at hi2
    rw [List.length_map, List.length_range] at hi2
    obtain ⟨e1, e2⟩ := y
    subst e1 e2
    refine ⟨.int (lo + i), ?_, rfl, .int _⟩
    show (rngL lo m 1)[i]? = _
    unfold rngL
    rw [List.getElem?_map, List.getElem?_range hi2]
    simp
theorem signs_len {z : Str} : (signs z).length = z.cps.size := by
  unfold signs
  rw [List.length_map, Array.length_toList]
theorem itd_t {z : Str} {n : Nat} (hz : PyData.strOk z = true) : ItD Γ X false W n (Its z) (none, signs z) where
  goes := fun W' H' st' i af hi => by
    have hi : i < (signs z).length := hi
    rw [signs_len] at hi
    exact hi
  stops := fun W' H' st' af => by
    show z.cps.size ≤ (signs z).length
    rw [signs_len]
    exact Nat.le_refl _
  yields := fun W' H' st' i x H'' af hi y => by
    obtain ⟨e1, c, hc, e2⟩ := y
    subst e1 e2
    refine ⟨.str ⟨#[c]⟩, ?_, rfl, .str _ ?_ ?_⟩
    · show (signs z)[i]? = _
      unfold signs
      rw [List.getElem?_map, Array.getElem?_toList, hc]
      rfl
    · unfold PyData.strOk at hz ⊢
      rw [Array.all_eq_true'] at hz
      have := hz c (Array.mem_of_getElem? hc)
      simpa using this
    · show 1 ≤ sizeLine
      rw [sizeLine_eq]
      decide
/-! ### the iterators -/
section
variable {pins : List (Addr × PySem.Obj)} {σ : L2.St} {s : Shared} {R : It → Hp → Prop} {E : Value → Shared → Prop}
theorem itr_s (b : Bool) (I : Inv X pins σ H s) (h : SQ b X.K H A vs) (q : R (ItS b X.K A) H) : wpAny (model X.prog X.w) X.A (pyIter (.ref A)) (PIE X pins σ tg R) E s := by
  cases b with
  | true =>
    obtain ⟨its, rv, p, hz⟩ := I.list h
    refine wpAny_pyIter_list p.isList ⟨s.heap.objs.size, [s.heap.objs.size], _, _, H, rfl, I.kept (t' := s.toks) fun b o e => Heap.get?_push_of_some _ e, turn_list A _, ⟨_, Heap.get?_push_size _ rfl, rfl, rfl⟩, fun b hb => ?_, q⟩
    have e : b = s.heap.objs.size := by simpa using hb
    subst e
    exact I.fpOk (Nat.le_refl _) I.fresh
  | false =>
    obtain ⟨its, rv, p, hz⟩ := I.tuple h
    refine wpAny_pyIter_tuple (show s.heap.IsTuple A its.toArray from p) ⟨s.heap.objs.size, [s.heap.objs.size], _, _, H, rfl, I.kept (t' := s.toks) fun b o e => Heap.get?_push_of_some _ e, turn_tuple A _, ⟨_, Heap.get?_push_size _ rfl, rfl, rfl⟩, fun b hb => ?_, q⟩
    have e : b = s.heap.objs.size := by simpa using hb
    subst e
    exact I.fpOk (Nat.le_refl _) I.fresh
theorem itr_t {z : Str} {t : Tok} (I : Inv X pins σ H s) (q : R (Its z) H) : wpAny (model X.prog X.w) X.A (pyIter (.str z t)) (PIE X pins σ tg R) E s := by
  cases ha : z.cps.all (· < 128)
  · exact wpAny_pyIter_wide ha (pi_one (tk := s.toks) I _ (turn_str _ z t "str_iterator" (.inr rfl)) ⟨_, Heap.get?_push_size _ rfl, rfl, rfl⟩ q)
  · exact wpAny_pyIter_ascii ha (pi_one (tk := s.toks) I _ (turn_str _ z t "str_ascii_iterator" (.inl rfl)) ⟨_, Heap.get?_push_size _ rfl, rfl, rfl⟩ q)
theorem itr_e (b : Bool) (I : Inv X pins σ H s) (h : SQ b X.K H A vs) (q : R (ItE b X.K A) H) :
    wpAny (model X.prog X.w) X.A (call (.type "enumerate") [.ref A]) (fun v s1 => wpAny (model X.prog X.w) X.A (pyIter v) (PIE X pins σ (.Tuple elts kk tpos) R) E s1) E s := by
  obtain ⟨its, rv, p, hz⟩ := Inv.sq I h
  refine enum1_begins (begins_s b A its.toArray) p fun h' he hit hk => wpAny_pyIter_enum he ?_
  have I2 : Inv X pins σ H { s with heap := h' } := I.kept (t' := s.toks) hk
  refine ⟨s.heap.objs.size + 1, [s.heap.objs.size + 1, s.heap.objs.size], _, _, H, rfl, I2, turn_enumS b A (s.heap.objs.size + 1) s.heap.objs.size, ⟨⟨.none, he⟩, SIt.of hit, Nat.succ_ne_self _⟩, fun c hb => ?_, q⟩
  have e' : c = s.heap.objs.size + 1 ∨ c = s.heap.objs.size := by simpa using hb
  have hle : s.heap.objs.size ≤ c := by
    rcases e' with z | z
    · rw [z]; exact Nat.le_add_right _ _
    · rw [z]; exact Nat.le_refl _
  exact I.fpOk hle (I.hok.fresh hle)
theorem za_new (n : Nat) : ZA (n + 4) (n + 2) (n + 3) n (n + 1) := ⟨show (n + 2 : Nat) ≠ n + 4 by omega, show (n + 3 : Nat) ≠ n + 4 by omega, show (n + 2 : Nat) ≠ n + 3 by omega, show (n + 2 : Nat) ≠ n by omega, show (n + 2 : Nat) ≠ n + 1 by omega,
  show (n : Nat) ≠ n + 4 by omega, show (n + 1 : Nat) ≠ n + 4 by omega, show (n : Nat) ≠ n + 3 by omega, show (n + 1 : Nat) ≠ n + 3 by omega, show (n : Nat) ≠ n + 1 by omega⟩
theorem itr_z (b c : Bool) (I : Inv X pins σ H s) (h : SQ b X.K H A vs) (h2 : SQ c X.K H A2 ws) (q : R (ItZ b c X.K A A2) H) :
    wpAny (model X.prog X.w) X.A (call (.type "zip") [.ref A, .ref A2]) (fun v s1 => wpAny (model X.prog X.w) X.A (pyIter v) (PIE X pins σ (.Tuple elts kk tpos) R) E s1) E s := by
  obtain ⟨its, rv, p, hz⟩ := Inv.sq I h
  obtain ⟨its2, rv2, p2, hz2⟩ := Inv.sq I h2
  obtain ⟨o1, ho1, _⟩ := p.obj
  obtain ⟨o2, ho2, _⟩ := p2.obj
  have l1 := Heap.lt_size ho1
  have l2 := Heap.lt_size ho2
  refine zip_begins2 (begins_s b A its.toArray) (begins_s c A2 its2.toArray) p p2 fun h' hz hTI hTO h1 h2 hsz hk => wpAny_pyIter_zip hz ?_
  have I2 : Inv X pins σ H { s with heap := h' } := I.kept (t' := s.toks) hk
  refine ⟨s.heap.objs.size + 4, [s.heap.objs.size + 4, s.heap.objs.size + 2, s.heap.objs.size + 3, s.heap.objs.size, s.heap.objs.size + 1], _, _, H, rfl, I2,
    turn_zipS (za_new s.heap.objs.size) (fun e => by rw [← e] at l1; exact absurd l1 (by show ¬ (s.heap.objs.size + 3 : Nat) < s.heap.objs.size; omega)) (fun e => by rw [← e] at l2; exact absurd l2 (by show ¬ (s.heap.objs.size + 3 : Nat) < s.heap.objs.size; omega)), ⟨hz, hTI, ⟨_, _, hTO⟩, SIt.of h1, SIt.of h2⟩, fun d hcm => ?_, q⟩
  have e' : d = s.heap.objs.size + 4 ∨ d = s.heap.objs.size + 2 ∨ d = s.heap.objs.size + 3 ∨ d = s.heap.objs.size ∨ d = s.heap.objs.size + 1 := by simpa using hcm
  have hle : s.heap.objs.size ≤ d := by
    rcases e' with z | z | z | z | z
    · rw [z]; exact Nat.le_add_right _ _
    · rw [z]; exact Nat.le_add_right _ _
    · rw [z]; exact Nat.le_add_right _ _
    · rw [z]; exact Nat.le_refl _
    · rw [z]; exact Nat.le_add_right _ _
  exact I.fpOk hle (I.hok.fresh hle)
end
end
end Fx

set_option Elab.async false
set_option linter.all false
set_option maxRecDepth 100000
set_option maxHeartbeats 4000000
/-! Fx23: what stands behind in, as expressions. -/
namespace Fx
open PySem PySem.Spec PyProof.Rows L2 NdefX LamX
section
variable {Γ : Gc} {X : Cx} {k : Nat} {a b c e : Expr} {es rest : List Expr} {pos p p2 tpos : Pos} {elts : List Expr} {kk : Nat} {Fa Fb Fc : Env → M Val} {tg : Expr}
theorem di_of (ha : DE Γ X a Fa) : DI Γ X false tg a (fun ε => M.bind (Fa ε) fun v => itV v) := fun Wx tk => by
  refine ⟨fun pins s σ H R I ⟨W, ε, st, rel, env, post⟩ => ?_⟩
  refine thn ((ha Wx tk).run pins s σ H (fun x H1 => ∃ y W1 st1, Rel Γ.T (kp X) W1 H1 st1 ∧ RVs Γ X σ W1 H1 st1.length x y ∧ Post Γ X (fun W _ n J q => ItD Γ X false W n J q) σ Wx W1 H1 st1 (itV y st1) R) I
    (tG_of rel env post fun v x W1 H1 st1 e1 x1 rel1 env1 r1 p1 => ⟨x, W1, st1, rel1, r1, p1⟩)) fun v s1 ⟨x, H1, I1, rx, y, W1, st1, rel1, r1, p1⟩ => ?_
  unfold itV at p1
  obtain ⟨d, ed, p2⟩ := post_vw p1
  cases d with
  | list xs =>
    obtain ⟨A, vs, rfl, h1, hz, q⟩ := vw_list rel1 r1 ed
    cases ref_of rx
    refine itr_s true I1 (.inl h1) ?_
    cases y with
    | o l => 
      have r0 := r1
      obtain ⟨hl, e⟩ := r0
      cases e
      exact p2 _ W1 H1 Ext.refl rel1 (itd_s (stays_o hl))
    | d z =>
      cases ed
      exact p2 _ W1 H1 Ext.refl rel1 (itd_s (stays_list (Rp.plain r1 rfl)))
    | c k ws => cases ed
    | g f => cases ed
  | tuple xs =>
    have t1 := vw_td ed
    subst t1
    obtain ⟨A, o, vs, rfl, h1, hn, hz, q⟩ := vw_tup rel1 r1 ed
    cases ref_of rx
    exact itr_s false I1 (.inl (.inr ⟨_, h1⟩)) (p2 _ W1 H1 Ext.refl rel1 (itd_s (stays_tup (Rp.plain r1 rfl))))
  | str z =>
    obtain ⟨e, h1, h2⟩ := vw_str r1 ed
    subst e
    obtain ⟨t, rfl⟩ := rx
    have p3 : Post Γ X (fun W _ n J q => ItD Γ X false W n J q) σ Wx W1 H1 st1 (M.pure (none, signs z) st1) R := by
      cases y with
      | d z' => cases ed; exact p2
      | o l => obtain ⟨xs, e, _⟩ := vw_o ed; cases e
      | c k ws => cases ed
      | g f => cases ed
    exact itr_t I1 (p3 _ W1 H1 Ext.refl rel1 (itd_t h1))
  | _ => cases y <;> exact p2.elim
theorem bnd_ok {i : Int} (h : bnd62 i = true) : -(2 ^ 62) ≤ i ∧ i < 2 ^ 62 := by
  unfold bnd62 at h
  simpa only [Bool.and_eq_true, decide_eq_true_eq] using h
theorem di_rng1 (hb : Blt X "range" (.type "range")) (ha : DE Γ X a Fa) (hu : unstar a = true) : DI Γ X false tg (.Call (.Name "range" p) [a] [] pos) (fun ε => M.bind (Fa ε) fun v => (match v with
    | .d (.int j) => if bnd62 j && decide (j ≤ sizeLine) then M.pure (none, rngL 0 j.toNat 1) else M.bad
    | _ => M.bad)) := fun Wx tk => by
  have h0 := pi_range1 (tg := tg) (p := p) (pos := pos) hb.gl hb.no (pa_cons (ha Wx tk) pa_nil (star_cons hu)) (star_cons hu)
  refine ⟨fun pins s σ H R I ⟨W, ε, st, rel, env, post⟩ => h0.run pins s σ H R I ?_⟩
  refine tG_of rel env post fun v x W1 H1 st1 e1 x1 rel1 env1 r1 p1 => ?_
  cases x with
  | d z =>
    cases z with
    | int j =>
      have p1 : Post Γ X (fun W _ n J q => ItD Γ X false W n J q) σ Wx W1 H1 st1 ((if bnd62 j && decide (j ≤ sizeLine) then M.pure (none, rngL 0 j.toNat 1) else M.bad) st1) R := p1
      cases hc : (bnd62 j && decide (j ≤ sizeLine)) with
      | false => simp only [hc, Bool.false_eq_true, if_false] at p1; exact p1.elim
      | true =>
        simp only [hc, if_true] at p1
        rw [Bool.and_eq_true] at hc
        obtain ⟨h1, h2⟩ := bnd_ok hc.1
        exact ⟨j, by rw [rv_int r1], h1, h2, p1 _ W1 H1 Ext.refl rel1 itd_r⟩
    | _ => exact p1.elim
  | _ => exact p1.elim
theorem di_rng2 (hb : Blt X "range" (.type "range")) (ha : DE Γ X a Fa) (hu : unstar a = true) (hb2 : DE Γ X b Fb) (hu2 : unstar b = true) : DI Γ X false tg (.Call (.Name "range" p) [a, b] [] pos) (fun ε => M.bind (Fa ε) fun v => M.bind (Fb ε) fun w => (match v, w with
    | .d (.int i), .d (.int j) => if bnd62 i && bnd62 j && decide (j - i ≤ sizeLine) then M.pure (none, rngL i (j - i).toNat 1) else M.bad
    | _, _ => M.bad)) := fun Wx tk => by
  have h0 := pi_range2 (tg := tg) (p := p) (pos := pos) hb.gl hb.no (pa_cons (ha Wx tk) (pa_cons (hb2 Wx tk) pa_nil (star_cons hu2)) (star_cons hu)) (by rw [star_cons hu, star_cons hu2]; rfl) (star_cons hu2)
  refine ⟨fun pins s σ H R I ⟨W, ε, st, rel, env, post⟩ => h0.run pins s σ H R I ?_⟩
  refine tG_of rel env post fun v x W1 H1 st1 e1 x1 rel1 env1 r1 p1 => tG_of rel1 env1 p1 fun u y W2 H2 st2 e2 x2 rel2 env2 r2 p2 => ?_
  cases x with
  | d z =>
    cases z with
    | int i =>
      cases y with
      | d z2 =>
        cases z2 with
        | int j =>
          have p2 : Post Γ X (fun W _ n J q => ItD Γ X false W n J q) σ Wx W2 H2 st2 ((if bnd62 i && bnd62 j && decide (j - i ≤ sizeLine) then M.pure (none, rngL i (j - i).toNat 1) else M.bad) st2) R := p2
          cases hc : (bnd62 i && bnd62 j && decide (j - i ≤ sizeLine)) with
          | false => simp only [hc, Bool.false_eq_true, if_false] at p2; exact p2.elim
          | true =>
            simp only [hc, if_true] at p2
            simp only [Bool.and_eq_true] at hc
            obtain ⟨h1, h2⟩ := bnd_ok hc.1.1
            obtain ⟨h3, h4⟩ := bnd_ok hc.1.2
            exact ⟨i, j, by rw [rv_int r1, rv_int r2], ⟨h1, h2, h3, h4⟩, p2 _ W2 H2 Ext.refl rel2 itd_r⟩
        | _ => exact p2.elim
      | _ => exact p2.elim
    | _ => exact p2.elim
  | _ => exact p2.elim
theorem seq_pl {W : Wd} {n : Nat} {v : V} {d : PyData} {xs : List PyData} {g : Option Gd} (h : Rp (kp X) W.Hs v d) (e : seqOf d = some xs) : ∃ bb A, v = .ref A ∧ Stays Γ X bb W n g A xs := by
  cases d with
  | list ys =>
    cases e
    have hp := Rp.plain h rfl
    cases hp with
    | lst h1 h2 h3 => exact ⟨true, _, rfl, stays_list (.lst h1 h2 h3)⟩
  | tuple ys =>
    cases e
    have hp := Rp.plain h rfl
    cases hp with
    | tup h1 h2 h3 h4 => exact ⟨false, _, rfl, stays_tup (.tup h1 h2 h3 h4)⟩
  | _ => cases e
theorem aft0 {W : Wd} {H : Hp} {st : Sto} (rel : Rel Γ.T (kp X) W H st) : Aft Γ X W st.length none W H st := ⟨More.refl, fun _ _ => rfl, rel, rfl⟩
theorem di_enum (hb : Blt X "enumerate" (.type "enumerate")) (ha : DE Γ X a Fa) (hu : unstar a = true) : DI Γ X true (.Tuple elts kk tpos) (.Call (.Name "enumerate" p) [a] [] pos) (fun ε => M.bind (Fa ε) fun v => M.bind (dat v) fun x => (match seqOf x with
    | some xs => M.pure (none, numL 0 xs)
    | none => M.bad)) := fun Wx tk => by
  refine ⟨fun pins s σ H R I ⟨W, ε, st, rel, env, post⟩ => ?_⟩
  refine Call_ (ld_blt I hb.gl hb.no hb.is (PyProof.Rows.callWith_type1 (thn ((pa_cons (ha Wx tk) pa_nil (star_cons hu)).run pos pins s σ H (fun vs H1 => ∃ A bb ws, vs = [.ref A] ∧ SQ bb X.K H1 A ws ∧ R (ItE bb X.K A) H1) I
    (tG_of rel env post fun v x W1 H1 st1 e1 x1 rel1 env1 r1 p0 => ?_)) fun us s1 ⟨vs, H1, I1, r1, A, bb, ws, ex, hq, q⟩ => ?_) (star_cons hu) rfl) (by decide) (by decide))
  · obtain ⟨d, rfl, p1⟩ := post_dat p0
    cases es : seqOf d with
    | none => simp only [es] at p1; exact p1.elim
    | some xs =>
      simp only [es] at p1
      obtain ⟨bb, A, rfl, hs⟩ := seq_pl (Γ := Γ) (n := st1.length) (g := none) r1 es
      obtain ⟨ws, hq, _⟩ := hs W1 H1 st1 (aft0 rel1)
      exact ⟨A, bb, ws, rfl, hq, p1 _ W1 H1 Ext.refl rel1 (itd_e hs)⟩
  · subst ex
    obtain ⟨u, rfl, ru⟩ := vals1 r1
    cases ref_of ru
    exact itr_e bb I1 hq q
theorem di_zip (hb : Blt X "zip" (.type "zip")) (ha : DE Γ X a Fa) (hu : unstar a = true) (hb2 : DE Γ X b Fb) (hu2 : unstar b = true) : DI Γ X true (.Tuple elts kk tpos) (.Call (.Name "zip" p) [a, b] [] pos) (fun ε => M.bind (Fa ε) fun v => M.bind (Fb ε) fun w => M.bind (dat v) fun x => M.bind (dat w) fun y => (match seqOf x, seqOf y with
    | some xs, some ys => M.pure (none, pairL xs ys)
    | _, _ => M.bad)) := fun Wx tk => by
  refine ⟨fun pins s σ H R I ⟨W, ε, st, rel, env, post⟩ => ?_⟩
  refine Call_ (ld_blt I hb.gl hb.no hb.is (PyProof.Rows.callWith_type1 (thn ((pa_cons (ha Wx tk) (pa_cons (hb2 Wx tk) pa_nil (star_cons hu2)) (star_cons hu)).run pos pins s σ H (fun vs H1 => ∃ A A2 bb cc ws ws2, vs = [.ref A, .ref A2] ∧ SQ bb X.K H1 A ws ∧ SQ cc X.K H1 A2 ws2 ∧ R (ItZ bb cc X.K A A2) H1) I
    (tG_of rel env post fun v x W1 H1 st1 e1 x1 rel1 env1 r1 p0 => tG_of rel1 env1 p0 fun u y W2 H2 st2 e2 x2 rel2 env2 r2 p0 => ?_)) fun us s1 ⟨vs, H1, I1, r1, A, A2, bb, cc, ws, ws2, ex, hq, hq2, q⟩ => ?_) (star_cons hu) (by rw [star_cons hu2]; rfl)) (by decide) (by decide))
  · obtain ⟨d, rfl, p1⟩ := post_dat p0
    obtain ⟨f, rfl, p2⟩ := post_dat p1
    cases es : seqOf d with
    | none => simp only [es] at p2; exact p2.elim
    | some xs =>
      cases es2 : seqOf f with
      | none => simp only [es, es2] at p2; exact p2.elim
      | some ys =>
        simp only [es, es2] at p2
        obtain ⟨bb, A, rfl, hs⟩ := seq_pl (Γ := Γ) (n := st2.length) (g := none) (Rp.more x2.hs r1) es
        obtain ⟨cc, A2, rfl, hs2⟩ := seq_pl (Γ := Γ) (n := st2.length) (g := none) r2 es2
        obtain ⟨ws, hq, _⟩ := hs W2 H2 st2 (aft0 rel2)
        obtain ⟨ws2, hq2, _⟩ := hs2 W2 H2 st2 (aft0 rel2)
        exact ⟨A, A2, bb, cc, ws, ws2, rfl, hq, hq2, p2 _ W2 H2 Ext.refl rel2 (itd_z hs hs2)⟩
  · subst ex
    obtain ⟨u, u2, rfl, ru, ru2⟩ := vals2 r1
    cases ref_of ru
    cases ref_of ru2
    exact itr_z bb cc I1 hq hq2 q
end
end Fx

set_option Elab.async false
set_option linter.all false
set_option maxRecDepth 100000
set_option maxHeartbeats 4000000
/-! Fx24: list comprehensions. -/
namespace Fx
open PySem PySem.Spec PyProof.Rows L2 NdefX LamX
/-! ### a block's own view -/
abbrev Never : WX := fun _ _ _ _ => False
theorem takes_blk {X : Cx} {s : Shared} {H : Hp} {sc : Scope} {ce : PySem.Env} {fp : List Addr} : Takes (X.blk s H sc ce fp) Never := fun u s' ⟨_, _, _, _, _, _, _, _, _, _, _, _, _, _, _, _, w⟩ => w.elim
section
variable {Γ : Gc} {X : Cx} {W : Wd} {H : Hp} {n : Nat} {σ : L2.St} {ε : Env} {vs : List Nat}
theorem wipeE_at : ∀ {vs : List Nat} {ε : Env} {i : Nat} {x : Slv}, (wipeE ε vs)[i]? = some (some x) → ε[i]? = some (some x) ∧ i ∉ vs
  | [], _, _, _, h => ⟨h, by simp⟩
  | j :: js, ε, i, x, h => by
    unfold wipeE at h
    by_cases e : j = i
    · subst e
      by_cases hl : j < (wipeE ε js).length
      · rw [List.getElem?_set_self hl] at h; cases h
      · rw [List.getElem?_eq_none (by simpa using hl)] at h; cases h
    · rw [List.getElem?_set_ne e] at h
      obtain ⟨h1, h2⟩ := wipeE_at h
      exact ⟨h1, by simp only [List.mem_cons, not_or]; exact ⟨fun z => e z.symm, h2⟩⟩
theorem wipeE_len : ∀ {vs : List Nat} {ε : Env}, (wipeE ε vs).length = ε.length
  | [], _ => rfl
  | j :: js, ε => by unfold wipeE; rw [List.length_set, wipeE_len]
theorem blkE_at {i : Nat} {x : Slv} (h : (blkE ε vs)[i]? = some (some x)) : ε[i]? = some (some x) ∧ i ∉ vs ∧ ∃ v, x = .v v ∧ isC v = false := by
  unfold blkE at h
  obtain ⟨h1, h2⟩ := wipeE_at h
  rw [List.getElem?_map] at h1
  obtain ⟨y, e1, e2⟩ := Option.map_eq_some_iff.mp h1
  cases y with
  | none => cases e2
  | some y =>
    cases y with
    | nd k js => cases e2
    | v v => cases v with
      | c k ws => cases e2
      | d d => cases e2; exact ⟨e1, h2, _, rfl, rfl⟩
      | o l => cases e2; exact ⟨e1, h2, _, rfl, rfl⟩
      | g f => cases e2; exact ⟨e1, h2, _, rfl, rfl⟩
theorem blkE_len : (blkE ε vs).length = ε.length := by unfold blkE; rw [wipeE_len, List.length_map]
theorem EnvR.less (r : EnvR Γ X W H n σ ε) : EnvR Γ X W H n σ (blkE ε vs) := ⟨by rw [blkE_len]; exact r.len, fun i x h => r.at_ i x (blkE_at h).1⟩
theorem wipe_at {σ : L2.St} {i : Nat} {v : V} : ∀ {vs : List Nat}, σ[i]? = some (some v) → i ∉ vs → (wipe σ vs)[i]? = some (some v)
  | [], h, _ => h
  | j :: js, h, hi => by
    rw [List.mem_cons, not_or] at hi
    unfold wipe
    rw [List.getElem?_set_ne (fun e => hi.1 e.symm)]
    exact wipe_at h hi.2
theorem RV.blk {P P' : L2.St → Prop} {v : V} {x : Val} {s : Shared} {H0 : Hp} {sc : Scope} {ce : PySem.Env} {fp : List Addr} (h : isC x = false) (r : RV Γ X P W H n v x) : RV Γ (X.blk s H0 sc ce fp) P' W H n v x := by
  cases x with
  | d x => exact r
  | o l => exact r
  | c k ws => cases h
  | g f => exact r
theorem EnvR.blk {s : Shared} {H0 : Hp} {sc : Scope} {ce : PySem.Env} {fp : List Addr} (r : EnvR Γ X W H n σ ε) : EnvR Γ (X.blk s H0 sc ce fp) W H n (wipe σ vs) (blkE ε vs) :=
  ⟨by rw [blkE_len, wipe_length]; exact r.len, fun i x h => by
    obtain ⟨h1, h2, v, rfl, h3⟩ := blkE_at h
    obtain ⟨u, h4, h5⟩ := r.at_ i _ h1
    exact ⟨u, wipe_at h4 h2, RV.blk h3 h5⟩⟩
/-- what a block's value is outside -/
theorem RV.unblk {P P' : L2.St → Prop} {v : V} {x : Val} {s : Shared} {H0 : Hp} {sc : Scope} {ce : PySem.Env} {fp : List Addr} (h : isC x = false) (r : RV Γ (X.blk s H0 sc ce fp) P W H n v x) : RV Γ X P' W H n v x := by
  cases x with
  | d x => exact r
  | o l => exact r
  | c k ws => cases h
  | g f => exact r
end
/-- no made function, no closure -/
def flatE (ε : Env) : Prop := ∀ (i : Nat) (x : Slv), ε[i]? = some (some x) → ∃ v, x = Slv.v v ∧ isC v = false
theorem flat_blk {ε : Env} {vs : List Nat} : flatE (blkE ε vs) := fun i x h => (blkE_at h).2.2
theorem RV.conv {Γ : Gc} {X X' : Cx} {P P' : L2.St → Prop} {W : Wd} {H : Hp} {n : Nat} {v : V} {x : Val} (hk : kp X' = kp X) (h : isC x = false) (r : RV Γ X P W H n v x) : RV Γ X' P' W H n v x := by
  cases x with
  | d x => exact (show Rp (kp X') W.Hs v x from hk ▸ r)
  | o l => exact r
  | c k ws => cases h
  | g f => exact r
theorem EnvR.conv {Γ : Gc} {X X' : Cx} {W : Wd} {H : Hp} {n : Nat} {σ : L2.St} {ε : Env} (hk : kp X' = kp X) (h : flatE ε) (r : EnvR Γ X W H n σ ε) : EnvR Γ X' W H n σ ε :=
  ⟨r.len, fun i x e => by
    obtain ⟨v, rfl, hv⟩ := h i x e
    obtain ⟨u, h1, h2⟩ := r.at_ i _ e
    exact ⟨u, h1, RV.conv hk hv h2⟩⟩
theorem ne_cel {H : Hp} {p f : Addr} {u o : HO} (hp : ∀ u, H p = some u → isCel u) (h : H f = some u) (hu : ¬ isCel u) : (upd H p o) f = some u := by
  rw [upd_ne (fun z : f = p => hu (hp u (by rw [← z]; exact h)))]
  exact h
theorem EnvR.poke {Γ : Gc} {X : Cx} {W : Wd} {H : Hp} {n : Nat} {σ : L2.St} {ε : Env} {p : Addr} {o : HO} (r : EnvR Γ X W H n σ ε) (hp : ∀ u, H p = some u → isCel u) : EnvR Γ X W (upd H p o) n σ ε :=
  ⟨r.len, fun i x h => by
    obtain ⟨v, h1, h2⟩ := r.at_ i x h
    refine ⟨v, h1, ?_⟩
    cases x with
    | v x => cases x with
      | d x => exact h2
      | o l => exact h2
      | c k ws =>
        obtain ⟨f, F, wvs, ci, h1, h2, h3, h4, h5, h6, h7, h8⟩ := h2
        exact ⟨f, F, wvs, ci, h1, h2, h3, h4, h5, ne_cel hp h6 (not_cel_fn _ _), ne_cel hp h7 (not_cel_code _ _), h8⟩
      | g f => exact h2
    | nd k js =>
      obtain ⟨f, F, ci, h1, h2, h3, h4, h5, h6, h7, h8⟩ := h2
      exact ⟨f, F, ci, h1, h2, h3, h4, h5, ne_cel hp h6 (not_cel_fn _ _), ne_cel hp h7 (not_cel_code _ _), h8⟩⟩
theorem wipe_set {σ : L2.St} {j : Nat} : ∀ {vs : List Nat}, wipe (σ.set j none) vs = (wipe σ vs).set j none
  | [] => rfl
  | v :: vs => by
    unfold wipe
    rw [wipe_set]
    by_cases e : v = j
    · rw [e]
    · rw [List.set_comm _ _ (fun z => e z.symm)]
theorem wipe_wipe {σ : L2.St} : ∀ {vs : List Nat}, wipe (wipe σ vs) vs = wipe σ vs := fun {vs} => by
  have key : ∀ (as vs : List Nat) (σ : L2.St), (∀ a ∈ as, a ∈ vs) → wipe (wipe σ as) vs = wipe σ vs := by
    intro as
    induction as with
    | nil => intro vs σ _; rfl
    | cons a as ih =>
      intro vs σ h
      show wipe ((wipe σ as).set a none) vs = wipe σ vs
      rw [wipe_in (h a List.mem_cons_self), ih vs σ fun b hb => h b (List.mem_cons_of_mem _ hb)]
  exact key vs vs σ fun _ h => h
theorem Post.mono {Γ : Gc} {X : Cx} {α β : Type} {R : Rl α β} {σ : L2.St} {Wx : WX} {W : Wd} {H : Hp} {st : Sto} {o : Out α} {Q Q' : β → Hp → Prop} (p : Post Γ X R σ Wx W H st o Q) (h : ∀ b H, Q b H → Q' b H) : Post Γ X R σ Wx W H st o Q' := by
  cases o with
  | ok a st' => exact fun b W' H' x r q => h _ _ (p b W' H' x r q)
  | err ex st' => exact p
  | bad => exact p
theorem PostG.mono {Γ : Gc} {X : Cx} {S : L2.St → Prop} {Wx : WX} {W : Wd} {H : Hp} {st : Sto} {o : Out Env} {Q Q' : L2.St → Hp → Prop} (p : PostG Γ X Wx S W H st o Q) (h : ∀ σ H, Q σ H → Q' σ H) : PostG Γ X Wx S W H st o Q' := by
  cases o with
  | ok a st' => exact fun W' H' x r σ e s => h _ _ (p W' H' x r σ e s)
  | err ex st' => exact p
  | bad => exact p
/-- a target leaves no made function -/
def FlatT (Ft : PyData → Env → M Env) : Prop := ∀ d ε st ε' st', flatE ε → Ft d ε st = .ok ε' st' → flatE ε'
/-! ### a part of a run, at another context -/
section
variable {Γ : Gc} {X X' : Cx} {α β γ δ : Type} {R : Rl α β} {R' : Rl γ δ} {σ σ' : L2.St} {Wx Wf : WX} {W W1 : Wd} {H H1 : Hp} {st st1 : Sto} {Q : β → Hp → Prop}
theorem inner {m : M γ} {g : γ → M α} (hk : kp X' = kp X) (p : Post Γ X R σ Wx W1 H1 st1 (M.bind (M.calm m) g st) Q) : Post Γ X' R' σ' Wf W H st (m st) (fun b H2 => ∃ a W2 st2, m st = .ok a st2 ∧ Ext W H st W2 H2 st2 ∧ Rel Γ.T (kp X) W2 H2 st2 ∧ R' W2 H2 st2.length b a ∧ Post Γ X R σ Wx W1 H1 st1 (g a st2) Q) := by
  unfold M.bind M.calm at p
  cases e : m st with
  | ok a st2 =>
    rw [e] at p
    exact fun b W2 H2 x r q => ⟨a, W2, st2, rfl, x, by rw [← hk]; exact r, q, p⟩
  | err ex st2 => rw [e] at p; exact p.elim
  | bad => rw [e] at p; exact p.elim
theorem innerG {S : L2.St → Prop} {m : M Env} {g : Env → M α} (hk : kp X' = kp X) (p : Post Γ X R σ Wx W1 H1 st1 (M.bind (M.calm m) g st) Q) : PostG Γ X' Wf S W H st (m st) (fun σ2 H2 => ∃ a W2 st2, m st = .ok a st2 ∧ Ext W H st W2 H2 st2 ∧ Rel Γ.T (kp X) W2 H2 st2 ∧ EnvR Γ X' W2 H2 st2.length σ2 a ∧ S σ2 ∧ Post Γ X R σ Wx W1 H1 st1 (g a st2) Q) := by
  unfold M.bind M.calm at p
  cases e : m st with
  | ok a st2 =>
    rw [e] at p
    exact fun W2 H2 x r σ2 en s2 => ⟨a, W2, st2, rfl, x, by rw [← hk]; exact r, en, s2, p⟩
  | err ex st2 => rw [e] at p; exact p.elim
  | bad => rw [e] at p; exact p.elim
end
theorem calm_bind {α β : Type} {m : M α} {g : α → M β} : M.calm (M.bind m g) = M.bind (M.calm m) fun a => M.calm (g a) := by
  funext s
  unfold M.calm M.bind
  cases e : m s with
  | ok a s' => simp only [e]
  | err ex s' => simp only [e]
  | bad => simp only [e]
theorem calm_pure {α : Type} {a : α} : M.calm (M.pure a) = M.pure a := rfl
/-! ### the tests -/
def DTs (Γ : Gc) (X : Cx) (ifs : List Expr) (F : Env → M Bool) : Prop := ∀ Wx, Takes X Wx → PTs X ifs (tTs Γ X F Wx)
theorem _root_.L2.PTs.imp {X : Cx} {e : List Expr} {t t' : TT} (h : PTs X e t) (k : ∀ σ H Q, t' σ H Q → t σ H Q) : PTs X e t' := ⟨fun pins s σ H Q I q => h.run pins s σ H Q I (k σ H Q q)⟩
section
variable {Γ : Gc} {X : Cx} {k : Nat} {a b c e elt tg iter : Expr} {pos p p2 : Pos} {Fa Fe : Env → M Val} {Fc : Env → M Bool} {Fi : Env → M (Option Gd × List PyData)} {Ft : PyData → Env → M Env} {ifs : List Expr} {scope : Scope} {own : List (Str × Nat)} {pr : Bool}
theorem dts_nil : DTs Γ X [] (fun _ => M.pure true) := fun Wx tk => pts_nil.imp fun σ H Q ⟨W, ε, st, rel, env, post⟩ => run_pure post rel rfl
theorem dts_one (h : DT Γ X c Fc) : DTs Γ X [c] Fc := fun Wx tk => pts_one (h Wx tk)
/-! ### one clause -/
def c1F (Ft : PyData → Env → M Env) (Fc : Env → M Bool) (K : Env → M (List (PyData × PyData))) (ε : Env) (x : PyData) : M (List (PyData × PyData)) := M.bind (Ft x ε) fun ε' => M.bind (Fc ε') fun b => if b then K ε' else M.pure []
def eltF (Fe : Env → M Val) : Env → M (List (PyData × PyData)) := fun ε => M.bind (Fe ε) fun v => M.bind (datP v) fun x => M.pure [(x, .none)]
def csF (Fi : Env → M (Option Gd × List PyData)) (Ft : PyData → Env → M Env) (Fc : Env → M Bool) (K : Env → M (List (PyData × PyData))) : Env → M (List (PyData × PyData)) := fun ε => M.bind (Fi ε) fun q => M.bind (gdOk q.1) fun _ => catL (c1F Ft Fc K ε) q.1 q.2
def lcF (ob : Bool) (vs : List Nat) (Fi : Env → M (Option Gd × List PyData)) (Ft : PyData → Env → M Env) (Fc : Env → M Bool) (Fe : Env → M Val) : Env → M Val := fun ε => M.bind (M.calm (csF Fi Ft Fc (eltF Fe) (blkE ε vs))) fun ps => if ps.length ≤ sizeLine then mkL ob (ps.map (·.1)) else M.bad
theorem calm_gd {α β : Type} {R : Rl α β} {σ : L2.St} {Wx : WX} {W1 : Wd} {H1 : Hp} {st st1 : Sto} {Q : β → Hp → Prop} {g : Option Gd} {f : Unit → M α} (p : Post Γ X R σ Wx W1 H1 st1 (M.bind (M.calm (gdOk g)) f st) Q) : gdOk g st = .ok () st ∧ Post Γ X R σ Wx W1 H1 st1 (f () st) Q := by
  unfold M.bind M.calm at p
  unfold gdOk at p ⊢
  cases g with
  | none => exact ⟨rfl, p⟩
  | some g =>
    simp only at p ⊢
    cases e : st[g.l]? with
    | none => rw [e] at p; exact p.elim
    | some c =>
      rw [e] at p
      cases c with
      | lst xs =>
        simp only at p ⊢
        cases h : dEqs xs g.xs with
        | true => rw [h] at p; exact ⟨rfl, p⟩
        | false => rw [h] at p; exact p.elim
      | dead => exact p.elim
      | dct tk ps => exact p.elim
/-- where a comprehension stands before a turn -/
structure At (Γ : Gc) (X : Cx) (W1 : Wd) (H1 : Hp) (st1 : Sto) (g : Option Gd) (Dp : Addr) (acc : List PyData) (W : Wd) (H : Hp) (st : Sto) : Prop where
  aft : Aft Γ X W1 st1.length g W H st
  ext : Ext W1 H1 st1 W H st
  out : Out1 W H st Dp
  lst : ∃ vs, H Dp = some (.lst vs) ∧ PlA (kp X) W.Hs vs acc
theorem At.step {W1 W2 W : Wd} {H1 H2 H : Hp} {st1 st2 st : Sto} {g : Option Gd} {Dp : Addr} {acc : List PyData} (a : At Γ X W1 H1 st1 g Dp acc W H st) (x : Ext W H st W2 H2 st2) : Ext W1 H1 st1 W2 H2 st2 ∧ Out1 W2 H2 st2 Dp ∧ ∃ vs, H2 Dp = some (.lst vs) ∧ PlA (kp X) W2.Hs vs acc := by
  obtain ⟨vs, h1, h2⟩ := a.lst
  have ho := a.out.ext x (by rw [h1]; exact fun z => by cases z)
  exact ⟨a.ext.trans x, ho, vs, x.frame _ _ h1 (fun l hl => a.out.cel l hl) (fun ps z => by cases z), h2.more x.hs⟩
theorem Ext.aft1 {W1 W : Wd} {H1 H : Hp} {st1 st : Sto} {g : Option Gd} (x : Ext W1 H1 st1 W H st) (rel : Rel Γ.T (kp X) W H st) (h : gdOk g st = .ok () st) : Aft Γ X W1 st1.length g W H st := ⟨x.hs, x.rho, rel, h⟩
def finL (ob : Bool) (ps : List (PyData × PyData)) : M Val := if ps.length ≤ sizeLine then mkL ob (ps.map (·.1)) else M.bad
theorem fin_len {ob : Bool} {σ : L2.St} {Wx : WX} {W1 : Wd} {H1 : Hp} {st st1 : Sto} {Q : VK} {m : M (List (PyData × PyData))} {A : List (PyData × PyData)} (p : Post Γ X (RVs Γ X σ) σ Wx W1 H1 st1 (M.bind (M.calm m) (fun ps => finL ob (A ++ ps)) st) Q) : A.length ≤ sizeLine := by
  unfold M.bind M.calm at p
  cases e : m st with
  | ok a st2 =>
    rw [e] at p
    have p : Post Γ X (RVs Γ X σ) σ Wx W1 H1 st1 (finL ob (A ++ a) st2) Q := p
    unfold finL at p
    by_cases h : (A ++ a).length ≤ sizeLine
    · rw [List.length_append] at h; omega
    · rw [if_neg h] at p; exact p.elim
  | err ex st2 => rw [e] at p; exact p.elim
  | bad => rw [e] at p; exact p.elim
theorem cat_cons {f : PyData → M (List (PyData × PyData))} {g : Option Gd} {x : PyData} {r : List PyData} {α : Type} {G : List (PyData × PyData) → M α} :
    M.bind (M.calm (catL f g (x :: r))) G = M.bind (M.calm (f x)) fun ys => M.bind (M.calm (gdOk g)) fun _ => M.bind (M.calm (catL f g r)) fun zs => G (ys ++ zs) := by
  show M.bind (M.calm (M.bind (f x) fun ys => M.bind (gdOk g) fun _ => M.bind (catL f g r) fun zs => M.pure (ys ++ zs))) G = _
  rw [calm_bind, M.bind_assoc]
  congr 1
  funext ys
  rw [calm_bind, M.bind_assoc]
  congr 1
  funext _
  rw [calm_bind, M.bind_assoc]
  rfl
/-- a block's target, test, element -/
def gB (Γ : Gc) (X : Cx) (scope : Scope) (vs : List Nat) (pr : Bool) (Ft : PyData → Env → M Env) : TG := fun v σ H Q => ∀ (s : Shared) (H0 : Hp) (C : Addr) (cl : List (Str × Addr)) (fp : List Addr), tgP Γ (X.blk s H0 scope (compEnvC scope cl C X.env) fp) vs pr Ft Never v σ H Q
def tB (Γ : Gc) (X : Cx) (scope : Scope) (Fc : Env → M Bool) : TT := fun σ H Q => ∀ (s : Shared) (H0 : Hp) (C : Addr) (cl : List (Str × Addr)) (fp : List Addr), tTs Γ (X.blk s H0 scope (compEnvC scope cl C X.env) fp) Fc Never σ H Q
def eB (Γ : Gc) (X : Cx) (scope : Scope) (Fe : Env → M Val) : TE := fun σ H Q => ∀ (s : Shared) (H0 : Hp) (C : Addr) (cl : List (Str × Addr)) (fp : List Addr), tE Γ (X.blk s H0 scope (compEnvC scope cl C X.env) fp) Fe Never σ H Q
def iB (Γ : Gc) (X : Cx) (pr : Bool) (Fi : Env → M (Option Gd × List PyData)) (Wx : WX) : TI := fun σ H R => tG Γ X (fun W _ n J q => ItD Γ X pr W n J q) Fi Wx σ H R
/-- what the parts of a block are -/
structure BlkD (Γ : Gc) (X : Cx) (scope : Scope) (vs : List Nat) (pr : Bool) (tg : Expr) (ifs : List Expr) (Ft : PyData → Env → M Env) (Fc : Env → M Bool) : Prop where
  g : ∀ (s : Shared) (H : Hp) (C : Addr) (cl : List (Str × Addr)) (fp : List Addr), DGp Γ (X.blk s H scope (compEnvC scope cl C X.env) fp) vs pr tg Ft
  t : ∀ (s : Shared) (H : Hp) (C : Addr) (cl : List (Str × Addr)) (fp : List Addr), DTs Γ (X.blk s H scope (compEnvC scope cl C X.env) fp) ifs Fc
  flat : FlatT Ft
def BlkE (Γ : Gc) (X : Cx) (scope : Scope) (elt : Expr) (Fe : Env → M Val) : Prop := ∀ (s : Shared) (H : Hp) (C : Addr) (cl : List (Str × Addr)) (fp : List Addr), DE Γ (X.blk s H scope (compEnvC scope cl C X.env) fp) elt Fe
section
variable {vs : List Nat}
theorem BlkD.pg (b : BlkD Γ X scope vs pr tg ifs Ft Fc) (s : Shared) (H : Hp) (C : Addr) (cl : List (Str × Addr)) (fp : List Addr) : PG (X.blk s H scope (compEnvC scope cl C X.env) fp) tg (gB Γ X scope vs pr Ft) :=
  ⟨fun pins s' σ H' v u Q I r h => ((b.g s H C cl fp).pg Never takes_blk).run pins s' σ H' v u Q I r (h s H C cl fp)⟩
theorem BlkD.pt (b : BlkD Γ X scope vs pr tg ifs Ft Fc) (s : Shared) (H : Hp) (C : Addr) (cl : List (Str × Addr)) (fp : List Addr) : PTs (X.blk s H scope (compEnvC scope cl C X.env) fp) ifs (tB Γ X scope Fc) :=
  (b.t s H C cl fp Never takes_blk).imp fun σ H' Q h => h s H C cl fp
theorem BlkE.pe (b : BlkE Γ X scope elt Fe) (s : Shared) (H : Hp) (C : Addr) (cl : List (Str × Addr)) (fp : List Addr) : PE (X.blk s H scope (compEnvC scope cl C X.env) fp) elt (eB Γ X scope Fe) :=
  (b s H C cl fp Never takes_blk).imp fun σ H' Q h => h s H C cl fp
theorem lc_k {ob : Bool} {Wx : WX} (hF : FlatT Ft) {σ : L2.St} {H : Hp} {Q : VK} (h : tE Γ X (lcF ob vs Fi Ft Fc Fe) Wx σ H Q) : tLc (iB Γ X pr Fi Wx) (gB Γ X scope vs pr Ft) (tB Γ X scope Fc) (eB Γ X scope Fe) vs σ H Q := by
  obtain ⟨W, ε, st, rel, env, post⟩ := h
  have post : Post Γ X (RVs Γ X σ) σ Wx W H st (M.bind (M.calm (csF Fi Ft Fc (eltF Fe) (blkE ε vs))) (finL ob) st) Q := post
  unfold csF at post
  rw [calm_bind, M.bind_assoc] at post
  refine ⟨W, blkE ε vs, st, rel, env.less, ?_⟩
  refine (inner (X' := X) (R' := fun W _ n J q => ItD Γ X pr W n J q) rfl post).mono fun J H1 ⟨q, W1, st1, eq, x0, rel1, itd, p0⟩ => ?_
  have p1 := p0.rebase x0
  rw [calm_bind, M.bind_assoc] at p1
  obtain ⟨h0, p2⟩ := calm_gd p1
  have env1 := env.ext rel x0
  intro D hD
  have it0 : At Γ X W1 H1 st1 q.1 D [] W1 (upd H1 D (.lst [])) st1 := ⟨⟨More.refl, fun _ _ => rfl, rel1.misc hD, h0⟩, Ext.misc hD, ⟨(Out1.of rel1 hD).hs, (Out1.of rel1 hD).cel⟩, [], upd_same, .nil⟩
  refine ⟨fun i m H => m = q.2.length - i ∧ i ≤ q.2.length ∧ ∃ acc W' st', At Γ X W1 H1 st1 q.1 D (acc.map (·.1)) W' H st' ∧ EnvR Γ X W' H st'.length σ ε ∧ Post Γ X (RVs Γ X σ) σ Wx W1 H1 st1 (M.bind (M.calm (catL (c1F Ft Fc (eltF Fe) (blkE ε vs)) q.1 (q.2.drop i))) (fun ps => finL ob (acc ++ ps)) st') Q,
    ⟨q.2.length, rfl, Nat.zero_le _, [], W1, st1, it0, env1.ext rel1 (Ext.misc hD), p2⟩, ?_⟩
  rintro i m H2 ⟨rfl, hi2, acc, W', st', hat, env', p'⟩
  by_cases hlt : i < q.2.length
  · refine .inr ⟨itd.goes W' H2 st' i hat.aft hlt, fun H => i + 1 ≤ q.2.length ∧ ∃ acc W' st', At Γ X W1 H1 st1 q.1 D (acc.map (·.1)) W' H st' ∧ EnvR Γ X W' H st'.length σ ε ∧ Post Γ X (RVs Γ X σ) σ Wx W1 H1 st1 (M.bind (M.calm (catL (c1F Ft Fc (eltF Fe) (blkE ε vs)) q.1 (q.2.drop (i + 1)))) (fun ps => finL ob (acc ++ ps)) st') Q,
      fun H' h => ⟨q.2.length - (i + 1), by omega, rfl, h.1, h.2⟩, fun x H3 y => ?_⟩
    obtain ⟨d, hd, hit⟩ := itd.yields W' H2 st' i x H3 hat.aft hlt y
    have ed : q.2[i] = d := by
      rw [List.getElem?_eq_getElem hlt] at hd
      exact Option.some.inj hd
    rw [List.drop_eq_getElem_cons hlt, ed, cat_cons] at p'
    unfold c1F at p'
    rw [calm_bind, M.bind_assoc] at p'
    intro s H0 C cl fp
    refine tgt_run (X := X.blk s H0 scope (compEnvC scope cl C X.env) fp) hat.aft.rel env'.blk hit ?_
    refine (innerG (X := X) (X' := X.blk s H0 scope (compEnvC scope cl C X.env) fp) (W := W') (H := H2) (S := Sw vs (wipe σ vs)) (Wf := Never) rfl p').mono fun σ2 H4 ⟨ε2, W2, st2, e2, x2, rel2, env2, s2, p2⟩ => ?_
    have fl2 : flatE ε2 := hF d _ _ _ _ flat_blk e2
    refine ⟨by rw [show wipe σ2 vs = wipe (wipe σ vs) vs from s2, wipe_wipe], fun s' H0' C' cl' fp' => ?_⟩
    rw [calm_bind, M.bind_assoc] at p2
    refine ⟨W2, ε2, st2, rel2, EnvR.conv (X := X.blk s H0 scope (compEnvC scope cl C X.env) fp) rfl fl2 env2, ?_⟩
    refine (inner (R' := REq) (X' := X.blk s' H0' scope (compEnvC scope cl' C' X.env) fp') rfl p2).mono fun bt H5 ⟨bt', W3, st3, e3, x3, rel3, r3, p3⟩ => ?_
    cases r3
    have x23 := x2.trans x3
    cases bt with
    | false =>
      simp only [Bool.false_eq_true, if_false] at p3 ⊢
      rw [calm_pure] at p3
      obtain ⟨hg3, p4⟩ := calm_gd p3
      obtain ⟨ext3, out3, lst3⟩ := hat.step x23
      exact ⟨hlt, acc, W3, st3, ⟨Ext.aft1 ext3 rel3 hg3, ext3, out3, lst3⟩, env'.ext hat.aft.rel x23, p4⟩
    | true =>
      simp only [if_true] at p3 ⊢
      intro s6 H6 C6 cl6 fp6
      unfold eltF at p3
      rw [calm_bind, M.bind_assoc] at p3
      have env3 : EnvR Γ (X.blk s H0 scope (compEnvC scope cl C X.env) fp) W3 H5 st3.length σ2 ε2 := env2.ext rel2 x3
      refine ⟨W3, ε2, st3, rel3, EnvR.conv (X := X.blk s H0 scope (compEnvC scope cl C X.env) fp) rfl fl2 env3, ?_⟩
      refine (inner (R' := RVs Γ (X.blk s6 H6 scope (compEnvC scope cl6 C6 X.env) fp6) σ2) (X' := X.blk s6 H6 scope (compEnvC scope cl6 C6 X.env) fp6) rfl p3).mono fun yv H7 ⟨v, W4, st4, e4, x4, rel4, r4, p4⟩ => ?_
      rw [calm_bind, M.bind_assoc] at p4
      cases v with
      | d z =>
        cases hz : isDct z with
        | true =>
          exfalso
          have e : datP (.d z) = M.bad := by unfold datP; simp only [hz, if_true]
          rw [e] at p4
          exact p4
        | false =>
          have e : datP (.d z) = M.pure z := by unfold datP; simp only [hz, Bool.false_eq_true, if_false]
          rw [e] at p4
          obtain ⟨hg4, p5⟩ := calm_gd p4
          have x24 := x23.trans x4
          obtain ⟨ext4, out4, vs4, hv4, hq4⟩ := hat.step x24
          have hp : Pl (kp X) W4.Hs yv z := Rp.plain r4 hz
          have p6 : Post Γ X (RVs Γ X σ) σ Wx W1 H1 st1 (M.bind (M.calm (catL (c1F Ft Fc (eltF Fe) (blkE ε vs)) q.1 (q.2.drop (i + 1)))) (fun ps => finL ob ((acc ++ [(z, .none)]) ++ ps)) st4) Q := by
            have e : (fun ps => finL ob ((acc ++ [(z, PyData.none)]) ++ ps)) = fun ps => finL ob (acc ++ ([(z, PyData.none)] ++ ps)) := by
              funext ps
              rw [List.append_assoc]
            rw [e]
            exact p5
          have hlen := fin_len p6
          rw [List.length_append, List.length_singleton] at hlen
          refine ⟨vs4, hv4, by rw [hq4.length, List.length_map]; exact hlen, hlt, acc ++ [(z, .none)], W4, st4, ⟨Ext.aft1 (ext4.poke hD) (rel4.poke out4 fun u hu => by rw [hv4] at hu; cases hu; exact .inl ⟨_, rfl⟩) hg4, ext4.poke hD, ⟨out4.hs, out4.cel⟩, vs4 ++ [yv], upd_same, ?_⟩, ?_, p6⟩
          · rw [List.map_append]
            exact hq4.append (.cons hp .nil)
          · exact (env'.ext hat.aft.rel x24).poke fun u hu => by rw [hv4] at hu; cases hu; exact .inl ⟨_, rfl⟩
      | o l => exact p4.elim
      | c k ws => exact p4.elim
      | g f => exact p4.elim
  · have e : i = q.2.length := by omega
    subst e
    refine .inl ⟨itd.stops W' H2 st' hat.aft, ?_⟩
    rw [List.drop_length] at p'
    have p' : Post Γ X (RVs Γ X σ) σ Wx W1 H1 st1 (finL ob (acc ++ []) st') Q := p'
    rw [List.append_nil] at p'
    unfold finL at p'
    by_cases hl : acc.length ≤ sizeLine
    · rw [if_pos hl] at p'
      obtain ⟨vs', hv, hq⟩ := hat.lst
      have hz : vs'.length ≤ sizeLine := by rw [hq.length, List.length_map]; exact hl
      cases ob with
      | false => exact p' (.ref D) (W'.add D (.lst vs')) H2 (hat.ext.tell hD hat.out.hs) (hat.aft.rel.tell hat.out hv) (pl_lst hq hz (more_upd hat.out.hs) Wd.at_add)
      | true => exact p' (.ref D) (W'.cell st'.length D) H2 (hat.ext.tellC hD) (hat.aft.rel.tellC hat.out hv ⟨_, rfl, hz, hq⟩ (fun z => by cases z)) ⟨by rw [List.length_append]; exact Nat.lt_succ_self _, by rw [Wd.cell_at]⟩
    · rw [if_neg hl] at p'; exact p'.elim
theorem de_lc {ob : Bool} (hc : X.calm = true) (hN : X.N.Nodup) (hi : DI Γ X pr tg iter Fi) (ok : BlkOk X.N X.env.scope scope own) (hv : own.map (·.2) = vs) (hb : BlkD Γ X scope vs pr tg ifs Ft Fc) (he : BlkE Γ X scope elt Fe)
    (hs : ∀ x, foldedSetIterable iter X.env x = pure x) : DE Γ X (.ListComp elt [⟨tg, iter, ifs, 0⟩] scope pos) (lcF ob vs Fi Ft Fc Fe) := fun Wx tk => by
  subst hv
  exact (pe_lc hc hN (hi Wx tk) ok hb.pg hb.pt he.pe hs).imp fun σ H Q h => lc_k hb.flat h
theorem ds_setLc {ob : Bool} {i : Nat} {y : Str} {spos py : Pos} (hc : X.calm = true) (hN : X.N.Nodup) (hy : X.N[i]? = some y) (hyl : X.env.scope.names.lookup y = some .local) (hsw : swapsWith (.ListComp elt [⟨tg, iter, ifs, 0⟩] scope pos) (some (.Name y py)) spos.line X.env = pure true)
    (hi : DI Γ X pr tg iter Fi) (ok : BlkOk X.N X.env.scope scope own) (hv : own.map (·.2) = vs) (hb : BlkD Γ X scope vs pr tg ifs Ft Fc) (he : BlkE Γ X scope elt Fe) (hs : ∀ x, foldedSetIterable iter X.env x = pure x) :
    DS Γ X (.Assign [.Name y py] (.ListComp elt [⟨tg, iter, ifs, 0⟩] scope pos) spos) (fun ε => M.bind (lcF ob vs Fi Ft Fc Fe ε) fun v => M.bind (noC v) fun v => M.pure (.nx (setE ε i v))) := fun Wx tk => by
  subst hv
  refine (ps_setLc hc hN hy hyl hsw (hi Wx tk) ok hb.pg hb.pt he.pe hs).imp fun D σ H ⟨W, ε, st, rel, env, post⟩ => lc_k hb.flat (tG_ofS rel env post fun v x W1 H1 st1 e1 x1 rel1 env1 r1 p1 => ?_)
  obtain ⟨hc, p2⟩ := postS_noC p1
  exact go_nx p2 rel1 (env1.set (x := .v x) (RV.any hc r1))
end
end
end Fx

set_option Elab.async false
set_option linter.all false
set_option maxRecDepth 100000
set_option maxHeartbeats 4000000
/-! Fx25: dict comprehensions, one clause, keys ints and texts. -/
namespace Fx
open PySem PySem.Spec PyProof.Rows L2 NdefX LamX
def foldP (ps : List (PyData × PyData)) : List (PyData × PyData) := ps.foldl (fun acc p => putD acc p.1 p.2) []
theorem foldP_snoc {ps : List (PyData × PyData)} {p : PyData × PyData} : foldP (ps ++ [p]) = putD (foldP ps) p.1 p.2 := by
  unfold foldP
  rw [List.foldl_append]
  rfl
theorem putD_len (ps : List (PyData × PyData)) (k v : PyData) : (putD ps k v).length ≤ ps.length + 1 := by
  unfold putD
  split
  · rw [List.length_map]; omega
  · rw [List.length_append]; exact Nat.le_refl _
theorem foldP_len (ps : List (PyData × PyData)) : (foldP ps).length ≤ ps.length := by
  have key : ∀ (ps acc : List (PyData × PyData)), (ps.foldl (fun acc p => putD acc p.1 p.2) acc).length ≤ acc.length + ps.length := by
    intro ps
    induction ps with
    | nil => intro acc; exact Nat.le_refl _
    | cons p ps ih =>
      intro acc
      rw [List.foldl_cons, List.length_cons]
      have h1 := ih (putD acc p.1 p.2)
      have h2 := putD_len acc p.1 p.2
      omega
  have := key ps []
  rw [List.length_nil, Nat.zero_add] at this
  exact this
def kvF (tk : Bool) (Fk Fe : Env → M Val) : Env → M (List (PyData × PyData)) := fun ε => M.bind (Fk ε) fun k => M.bind (dat k) fun k => M.bind (Fe ε) fun v => M.bind (datP v) fun v => if isKey k && (isTk k == tk) then M.pure [(k, v)] else M.bad
def finD (tk : Bool) (ps : List (PyData × PyData)) : M Val := if ps.length ≤ sizeLine then alloc (.dct tk (foldP ps)) else M.bad
def dcF (tk : Bool) (vs : List Nat) (Fi : Env → M (Option Gd × List PyData)) (Ft : PyData → Env → M Env) (Fc : Env → M Bool) (Fk Fe : Env → M Val) : Env → M Val := fun ε => M.bind (M.calm (csF Fi Ft Fc (kvF tk Fk Fe) (blkE ε vs))) (finD tk)
section
variable {Γ : Gc} {X : Cx} {k : Nat} {kx vx tg iter : Expr} {pos p p2 : Pos} {Fk Fe : Env → M Val} {Fc : Env → M Bool} {Fi : Env → M (Option Gd × List PyData)} {Ft : PyData → Env → M Env} {ifs : List Expr} {scope : Scope} {own : List (Str × Nat)} {pr : Bool} {vs : List Nat}
theorem finD_len {tk : Bool} {σ : L2.St} {Wx : WX} {W1 : Wd} {H1 : Hp} {st st1 : Sto} {Q : VK} {m : M (List (PyData × PyData))} {A : List (PyData × PyData)} (p : Post Γ X (RVs Γ X σ) σ Wx W1 H1 st1 (M.bind (M.calm m) (fun ps => finD tk (A ++ ps)) st) Q) : A.length ≤ sizeLine := by
  unfold M.bind M.calm at p
  cases e : m st with
  | ok a st2 =>
    rw [e] at p
    have p : Post Γ X (RVs Γ X σ) σ Wx W1 H1 st1 (finD tk (A ++ a) st2) Q := p
    unfold finD at p
    by_cases h : (A ++ a).length ≤ sizeLine
    · rw [List.length_append] at h; omega
    · rw [if_neg h] at p; exact p.elim
  | err ex st2 => rw [e] at p; exact p.elim
  | bad => rw [e] at p; exact p.elim
structure AtD (Γ : Gc) (X : Cx) (W1 : Wd) (H1 : Hp) (st1 : Sto) (g : Option Gd) (Dp : Addr) (acc : List (PyData × PyData)) (W : Wd) (H : Hp) (st : Sto) : Prop where
  aft : Aft Γ X W1 st1.length g W H st
  ext : Ext W1 H1 st1 W H st
  out : Out1 W H st Dp
  lst : ∃ kvs, H Dp = some (.dK kvs) ∧ KP (kp X) W.Hs kvs acc
theorem AtD.step {W1 W2 W : Wd} {H1 H2 H : Hp} {st1 st2 st : Sto} {g : Option Gd} {Dp : Addr} {acc : List (PyData × PyData)} (a : AtD Γ X W1 H1 st1 g Dp acc W H st) (x : Ext W H st W2 H2 st2) : Ext W1 H1 st1 W2 H2 st2 ∧ Out1 W2 H2 st2 Dp ∧ ∃ vs, H2 Dp = some (.dK vs) ∧ KP (kp X) W2.Hs vs acc := by
  obtain ⟨vs, h1, h2⟩ := a.lst
  have ho := a.out.ext x (by rw [h1]; exact fun z => by cases z)
  exact ⟨a.ext.trans x, ho, vs, x.frame _ _ h1 (fun l hl => a.out.cel l hl) (fun ps z => by cases z), KP.more x.hs h2⟩
theorem dc_k {Wx : WX} (hF : FlatT Ft) {σ : L2.St} {H : Hp} {Q : VK} (h : tE Γ X (dcF false vs Fi Ft Fc Fk Fe) Wx σ H Q) : tDc (iB Γ X pr Fi Wx) (gB Γ X scope vs pr Ft) (tB Γ X scope Fc) (eB Γ X scope Fk) (eB Γ X scope Fe) vs σ H Q := by
  obtain ⟨W, ε, st, rel, env, post⟩ := h
  have post : Post Γ X (RVs Γ X σ) σ Wx W H st (M.bind (M.calm (csF Fi Ft Fc (kvF false Fk Fe) (blkE ε vs))) (finD false) st) Q := post
  unfold csF at post
  rw [calm_bind, M.bind_assoc] at post
  refine ⟨W, blkE ε vs, st, rel, env.less, ?_⟩
  refine (inner (X' := X) (R' := fun W _ n J q => ItD Γ X pr W n J q) rfl post).mono fun J H1 ⟨q, W1, st1, eq, x0, rel1, itd, p0⟩ => ?_
  have p1 := p0.rebase x0
  rw [calm_bind, M.bind_assoc] at p1
  obtain ⟨h0, p2⟩ := calm_gd p1
  have env1 := env.ext rel x0
  intro D hD
  have it0 : AtD Γ X W1 H1 st1 q.1 D [] W1 (upd H1 D (.dK [])) st1 := ⟨⟨More.refl, fun _ _ => rfl, rel1.misc hD, h0⟩, Ext.misc hD, ⟨(Out1.of rel1 hD).hs, (Out1.of rel1 hD).cel⟩, [], upd_same, .nil⟩
  refine ⟨fun i m H => m = q.2.length - i ∧ i ≤ q.2.length ∧ ∃ acc W' st', AtD Γ X W1 H1 st1 q.1 D (foldP acc) W' H st' ∧ EnvR Γ X W' H st'.length σ ε ∧ Post Γ X (RVs Γ X σ) σ Wx W1 H1 st1 (M.bind (M.calm (catL (c1F Ft Fc (kvF false Fk Fe) (blkE ε vs)) q.1 (q.2.drop i))) (fun ps => finD false (acc ++ ps)) st') Q,
    ⟨q.2.length, rfl, Nat.zero_le _, [], W1, st1, it0, env1.ext rel1 (Ext.misc hD), p2⟩, ?_⟩
  rintro i m H2 ⟨rfl, hi2, acc, W', st', hat, env', p'⟩
  by_cases hlt : i < q.2.length
  · refine .inr ⟨itd.goes W' H2 st' i hat.aft hlt, fun H => i + 1 ≤ q.2.length ∧ ∃ acc W' st', AtD Γ X W1 H1 st1 q.1 D (foldP acc) W' H st' ∧ EnvR Γ X W' H st'.length σ ε ∧ Post Γ X (RVs Γ X σ) σ Wx W1 H1 st1 (M.bind (M.calm (catL (c1F Ft Fc (kvF false Fk Fe) (blkE ε vs)) q.1 (q.2.drop (i + 1)))) (fun ps => finD false (acc ++ ps)) st') Q,
      fun H' h => ⟨q.2.length - (i + 1), by omega, rfl, h.1, h.2⟩, fun x H3 y => ?_⟩
    obtain ⟨d, hd, hit⟩ := itd.yields W' H2 st' i x H3 hat.aft hlt y
    have ed : q.2[i] = d := by
      rw [List.getElem?_eq_getElem hlt] at hd
      exact Option.some.inj hd
    rw [List.drop_eq_getElem_cons hlt, ed, cat_cons] at p'
    unfold c1F at p'
    rw [calm_bind, M.bind_assoc] at p'
    intro s H0 C cl fp
    refine tgt_run (X := X.blk s H0 scope (compEnvC scope cl C X.env) fp) hat.aft.rel env'.blk hit ?_
    refine (innerG (X := X) (X' := X.blk s H0 scope (compEnvC scope cl C X.env) fp) (W := W') (H := H2) (S := Sw vs (wipe σ vs)) (Wf := Never) rfl p').mono fun σ2 H4 ⟨ε2, W2, st2, e2, x2, rel2, env2, s2, p2⟩ => ?_
    have fl2 : flatE ε2 := hF d _ _ _ _ flat_blk e2
    refine ⟨by rw [show wipe σ2 vs = wipe (wipe σ vs) vs from s2, wipe_wipe], fun s' H0' C' cl' fp' => ?_⟩
    rw [calm_bind, M.bind_assoc] at p2
    refine ⟨W2, ε2, st2, rel2, EnvR.conv (X := X.blk s H0 scope (compEnvC scope cl C X.env) fp) rfl fl2 env2, ?_⟩
    refine (inner (R' := REq) (X' := X.blk s' H0' scope (compEnvC scope cl' C' X.env) fp') rfl p2).mono fun bt H5 ⟨bt', W3, st3, e3, x3, rel3, r3, p3⟩ => ?_
    cases r3
    have x23 := x2.trans x3
    cases bt with
    | false =>
      simp only [Bool.false_eq_true, if_false] at p3 ⊢
      rw [calm_pure] at p3
      obtain ⟨hg3, p4⟩ := calm_gd p3
      obtain ⟨ext3, out3, lst3⟩ := hat.step x23
      exact ⟨hlt, acc, W3, st3, ⟨Ext.aft1 ext3 rel3 hg3, ext3, out3, lst3⟩, env'.ext hat.aft.rel x23, p4⟩
    | true =>
      simp only [if_true] at p3 ⊢
      intro s6 H6 C6 cl6 fp6
      unfold kvF at p3
      rw [calm_bind, M.bind_assoc] at p3
      have env3 : EnvR Γ (X.blk s H0 scope (compEnvC scope cl C X.env) fp) W3 H5 st3.length σ2 ε2 := env2.ext rel2 x3
      refine ⟨W3, ε2, st3, rel3, EnvR.conv (X := X.blk s H0 scope (compEnvC scope cl C X.env) fp) rfl fl2 env3, ?_⟩
      refine (inner (R' := RVs Γ (X.blk s6 H6 scope (compEnvC scope cl6 C6 X.env) fp6) σ2) (X' := X.blk s6 H6 scope (compEnvC scope cl6 C6 X.env) fp6) rfl p3).mono fun kv H7 ⟨kx, W4, st4, e4, x4, rel4, r4, p4⟩ => ?_
      rw [calm_bind, M.bind_assoc] at p4
      cases kx with
      | d kd =>
        have e : dat (.d kd) = M.pure kd := rfl
        rw [e, calm_pure, M.bind_pure, calm_bind, M.bind_assoc] at p4
        intro s7 H7' C7 cl7 fp7
        have env4 : EnvR Γ (X.blk s H0 scope (compEnvC scope cl C X.env) fp) W4 H7 st4.length σ2 ε2 := env3.ext rel3 x4
        refine ⟨W4, ε2, st4, rel4, EnvR.conv (X := X.blk s H0 scope (compEnvC scope cl C X.env) fp) rfl fl2 env4, ?_⟩
        refine (inner (R' := RVs Γ (X.blk s7 H7' scope (compEnvC scope cl7 C7 X.env) fp7) σ2) (X' := X.blk s7 H7' scope (compEnvC scope cl7 C7 X.env) fp7) rfl p4).mono fun yv H8 ⟨v, W5, st5, e5, x5, rel5, r5, p5⟩ => ?_
        rw [calm_bind, M.bind_assoc] at p5
        cases v with
        | d z =>
          cases hz : isDct z with
          | true =>
            exfalso
            have e : datP (.d z) = M.bad := by unfold datP; simp only [hz, if_true]
            rw [e] at p5
            exact p5
          | false =>
            have e : datP (.d z) = M.pure z := by unfold datP; simp only [hz, Bool.false_eq_true, if_false]
            rw [e, calm_pure, M.bind_pure] at p5
            cases hk : (isKey kd && (isTk kd == false)) with
            | false =>
              exfalso
              simp only [hk, Bool.false_eq_true, if_false] at p5
              exact p5
            | true =>
              simp only [hk, if_true] at p5
              rw [calm_pure, M.bind_pure] at p5
              obtain ⟨hg5, p6⟩ := calm_gd p5
              have x25 := (x23.trans x4).trans x5
              obtain ⟨ext5, out5, kvs5, hv5, hq5⟩ := hat.step x25
              have hp : Pl (kp X) W5.Hs yv z := Rp.plain r5 hz
              rw [Bool.and_eq_true] at hk
              have : ∃ k, kd = keyD k := by
                cases kd with
                | int i => exact ⟨.inl i, rfl⟩
                | str z => exact ⟨.inr z, rfl⟩
                | tuple xs => cases hk.2
                | _ => cases hk.1
              obtain ⟨kk, rfl⟩ := this
              have hpk : Pl (kp X) W4.Hs kv (keyD kk) := Rp.plain r4 (by cases kk <;> rfl)
              have hsk : ∀ x, kk = .inr x → PyData.strOk x = true ∧ x.length ≤ sizeLine := fun x e => by
                subst e
                cases hpk with
                | str _ a b => exact ⟨a, b⟩
              have p7 : Post Γ X (RVs Γ X σ) σ Wx W1 H1 st1 (M.bind (M.calm (catL (c1F Ft Fc (kvF false Fk Fe) (blkE ε vs)) q.1 (q.2.drop (i + 1)))) (fun ps => finD false ((acc ++ [(keyD kk, z)]) ++ ps)) st5) Q := by
                have e : (fun ps => finD false ((acc ++ [(keyD kk, z)]) ++ ps)) = fun ps => finD false (acc ++ ([(keyD kk, z)] ++ ps)) := by
                  funext ps
                  rw [List.append_assoc]
                rw [e]
                exact p6
              have hlen := finD_len p7
              rw [List.length_append, List.length_singleton] at hlen
              have hl5 : kvs5.length < sizeLine := by
                have h1 : kvs5.length = (foldP acc).length := Paired.length hq5
                have h2 := foldP_len acc
                omega
              refine ⟨kvs5, kk, key_pl hpk, hv5, hl5, hlt, acc ++ [(keyD kk, z)], W5, st5, ⟨Ext.aft1 (ext5.poke hD) (rel5.poke out5 fun u hu => by rw [hv5] at hu; cases hu; exact .inr (.inl ⟨_, rfl⟩)) hg5, ext5.poke hD, ⟨out5.hs, out5.cel⟩, putK kvs5 kk yv, upd_same, ?_⟩, ?_, p7⟩
              · rw [foldP_snoc]
                exact hq5.put hp hsk
              · exact (env'.ext hat.aft.rel x25).poke fun u hu => by rw [hv5] at hu; cases hu; exact .inr (.inl ⟨_, rfl⟩)
        | o l => exact p5.elim
        | c k ws => exact p5.elim
        | g f => exact p5.elim
      | o l => exact p4.elim
      | c k ws => exact p4.elim
      | g f => exact p4.elim
  · have e : i = q.2.length := by omega
    subst e
    refine .inl ⟨itd.stops W' H2 st' hat.aft, ?_⟩
    rw [List.drop_length] at p'
    have p' : Post Γ X (RVs Γ X σ) σ Wx W1 H1 st1 (finD false (acc ++ []) st') Q := p'
    rw [List.append_nil] at p'
    unfold finD at p'
    by_cases hl : acc.length ≤ sizeLine
    · rw [if_pos hl] at p'
      obtain ⟨kvs', hv, hq⟩ := hat.lst
      exact p' (.ref D) (W'.cell st'.length D) H2 (hat.ext.tellC hD) (hat.aft.rel.tellC hat.out hv ⟨_, rfl, hq⟩ (fun z => by cases z)) ⟨by rw [List.length_append]; exact Nat.lt_succ_self _, by rw [Wd.cell_at]⟩
    · rw [if_neg hl] at p'; exact p'.elim
theorem de_dc (hc : X.calm = true) (hN : X.N.Nodup) (hi : DI Γ X pr tg iter Fi) (ok : BlkOk X.N X.env.scope scope own) (hv : own.map (·.2) = vs) (hb : BlkD Γ X scope vs pr tg ifs Ft Fc) (hk : BlkE Γ X scope kx Fk) (he : BlkE Γ X scope vx Fe)
    (hs : ∀ x, foldedSetIterable iter X.env x = pure x) : DE Γ X (.DictComp kx vx [⟨tg, iter, ifs, 0⟩] scope pos) (dcF false vs Fi Ft Fc Fk Fe) := fun Wx tk => by
  subst hv
  exact (pe_dc hc hN (hi Wx tk) ok hb.pg hb.pt hk.pe he.pe hs).imp fun σ H Q h => dc_k hb.flat h
theorem ps_setDc {i : Nat} {y : Str} {py spos : Pos} {wi : TI} {g : TG} {tt : TT} {tk tv : TE} (hc : X.calm = true) (hN : X.N.Nodup) (hy : X.N[i]? = some y) (hyl : X.env.scope.names.lookup y = some .local)
    (hsw : swapsWith (.DictComp kx vx [⟨tg, iter, ifs, 0⟩] scope pos) (some (.Name y py)) spos.line X.env = pure true) (hi : PI X tg iter wi) (ok : BlkOk X.N X.env.scope scope own)
    (hg : ∀ (s : Shared) (H : Hp) (C : Addr) (cl : List (Str × Addr)) (fp : List Addr), PG (X.blk s H scope (compEnvC scope cl C X.env) fp) tg g) (ht : ∀ (s : Shared) (H : Hp) (C : Addr) (cl : List (Str × Addr)) (fp : List Addr), PTs (X.blk s H scope (compEnvC scope cl C X.env) fp) ifs tt)
    (hk : ∀ (s : Shared) (H : Hp) (C : Addr) (cl : List (Str × Addr)) (fp : List Addr), PE (X.blk s H scope (compEnvC scope cl C X.env) fp) kx tk) (he : ∀ (s : Shared) (H : Hp) (C : Addr) (cl : List (Str × Addr)) (fp : List Addr), PE (X.blk s H scope (compEnvC scope cl C X.env) fp) vx tv)
    (hs : ∀ x, foldedSetIterable iter X.env x = pure x) : PS X (.Assign [.Name y py] (.DictComp kx vx [⟨tg, iter, ifs, 0⟩] scope pos) spos) (tAsg (tDc wi g tt tk tv (own.map (·.2))) (gName i)) := by
  refine ⟨fun pins s σ H D I h => ?_⟩
  rw [exec_Assign_Name_used _ _ _ _ hsw]
  refine wpAny_bind (wpAny_standAt (wpAny_bind ?_))
  show wpAny _ X.A (do let _ ← comprehension (.DictComp kx vx [⟨tg, iter, ifs, 0⟩] scope pos) scope X.env (firstIterPos [⟨tg, iter, ifs, 0⟩] pos) newDict false (eval iter X.env) (some (assign (.Name y py) X.env))) _ _ s
  have h : tDc wi g tt tk tv (own.map (·.2)) σ H (fun x H1 => gName i x σ H1 D.nx) := h
  refine wpAny_bind (thn (dc_core (Qf := fun _ s' => SP X pins D .next s') hc hN I hi ok hg ht hk he hs h fun L C s' m H' I' q hn f => ?_) fun _ s' hq => wpAny_pure (wpAny_pure hq))
  show wpAny _ _ (assign (.Name y py) X.env (.ref L)) _ _ _
  refine wpAny_assign_Name (store_ok2 (v := V.ref L) I' hN hy (.inl hyl) rfl (fun s2 I2 ⟨a, sb, ha⟩ => ?_) (.inr hyl))
  obtain ⟨f0, f1, f2, f3, f4, f5⟩ := f
  have haC : C ≠ a := by
    rcases ha with z | z
    · rw [z]; exact f1
    · exact fun e => f4 y a z e.symm
  exact ⟨m, hn.sameBut sb haC, fun h3 sb3 => ⟨_, H', I2.turned (t' := s2.toks) (fun b o hb e => (sb3.2 b hb).trans e) f0 f1 f3 f4 f5, q⟩⟩
theorem ds_setDc {i : Nat} {y : Str} {spos py : Pos} (hc : X.calm = true) (hN : X.N.Nodup) (hy : X.N[i]? = some y) (hyl : X.env.scope.names.lookup y = some .local) (hsw : swapsWith (.DictComp kx vx [⟨tg, iter, ifs, 0⟩] scope pos) (some (.Name y py)) spos.line X.env = pure true)
    (hi : DI Γ X pr tg iter Fi) (ok : BlkOk X.N X.env.scope scope own) (hv : own.map (·.2) = vs) (hb : BlkD Γ X scope vs pr tg ifs Ft Fc) (hk : BlkE Γ X scope kx Fk) (he : BlkE Γ X scope vx Fe) (hs : ∀ x, foldedSetIterable iter X.env x = pure x) :
    DS Γ X (.Assign [.Name y py] (.DictComp kx vx [⟨tg, iter, ifs, 0⟩] scope pos) spos) (fun ε => M.bind (dcF false vs Fi Ft Fc Fk Fe ε) fun v => M.bind (noC v) fun v => M.pure (.nx (setE ε i v))) := fun Wx tk => by
  subst hv
  refine (ps_setDc hc hN hy hyl hsw (hi Wx tk) ok hb.pg hb.pt hk.pe he.pe hs).imp fun D σ H ⟨W, ε, st, rel, env, post⟩ => dc_k hb.flat (tG_ofS rel env post fun v x W1 H1 st1 e1 x1 rel1 env1 r1 p1 => ?_)
  obtain ⟨hc, p2⟩ := postS_noC p1
  exact go_nx p2 rel1 (env1.set (x := .v x) (RV.any hc r1))
theorem sw_on {e : Expr} {py : Pos} {y : Str} {l : Nat} {env : PySem.Env} (hk : env.scope.kind = .function) (hy : env.scope.names.lookup y = some .local) (hl : (py.line == e.pos.line) = true)
    (ha : (match e with
      | .ListComp _ _ s _ => s.names.any fun (n, k) => n == y && (k == .local || k == .cell)
      | .DictComp _ _ _ s _ => s.names.any fun (n, k) => n == y && (k == .local || k == .cell)
      | _ => true) = false) : swapsWith e (some (.Name y py)) l env = pure true := by
  have ky : env.kindOf y = some .local := hy
  have hb : env.blockKind = .function := by unfold PySem.Env.blockKind; rw [hk]; rfl
  cases e with
  | ListComp a b s c =>
    unfold swapsWith
    simp only [hb, ky, hl]
    simp only at ha
    rw [ha]
    rfl
  | DictComp a b d s c =>
    unfold swapsWith
    simp only [hb, ky, hl]
    simp only at ha
    rw [ha]
    rfl
  | _ => cases ha
theorem sw_off {e : Expr} {py : Pos} {y : Str} {l : Nat} {env : PySem.Env} (h : (env.scope.names.lookup y == some .local) = false) (hk : env.scope.kind = .function) : swapsWith e (some (.Name y py)) l env = pure false := by
  have ky : (env.kindOf y == some .local) = false := h
  have hb : env.blockKind = .function := by unfold PySem.Env.blockKind; rw [hk]; rfl
  cases e <;> first | rfl | (unfold swapsWith; simp only [hb, ky, Bool.and_false, Bool.false_and])
end
end Fx

set_option Elab.async false
set_option linter.all false
set_option maxRecDepth 100000
set_option maxHeartbeats 1000000
/-! Fx26: how a def's parameters are bound. -/
namespace Fx
open PySem PySem.Spec PyProof.Rows L2 NdefX LamX
/-- parameters by name alone -/
structure Plain (p : Arguments) (ps : List Str) : Prop where
  po : p.posonlyargs = []
  no : p.args.map (·.arg) = ps
  kwo : p.kwonlyargs = []
  va : p.vararg = none
  kwa : p.kwarg = none
def plainB (p : Arguments) (ps : List Str) : Bool := p.posonlyargs.isEmpty && decide (p.args.map (·.arg) = ps) && p.kwonlyargs.isEmpty && p.vararg.isNone && p.kwarg.isNone
theorem plain_by {p : Arguments} {ps : List Str} (h : plainB p ps = true) : Plain p ps := by
  unfold plainB at h
  simp only [Bool.and_eq_true, decide_eq_true_eq, List.isEmpty_iff, Option.isNone_iff_eq_none] at h
  obtain ⟨⟨⟨⟨h1, h2⟩, h3⟩, h4⟩, h5⟩ := h
  exact ⟨h1, h2, h3, h4, h5⟩
theorem forIn_app {α β : Type} {F : α → List α × β → Sem (ForInStep (List α × β))} {b : β} : ∀ (kw a : List α), (∀ pre y post, kw = pre ++ y :: post → F y (a ++ pre, b) = pure (.yield (a ++ pre ++ [y], b))) → forIn kw (a, b) F = pure (a ++ kw, b)
  | [], a, _ => by
    rw [List.append_nil]
    rfl
  | y :: r, a, h => by
    rw [List.forIn_cons]
    have e := h [] y r rfl
    rw [List.append_nil] at e
    rw [e]
    have q : (forIn r (a ++ [y], b) F : Sem _) = pure (a ++ [y] ++ r, b) := forIn_app r (a ++ [y]) fun pre z post hz => by
      have e2 := h (y :: pre) z post (by rw [hz]; rfl)
      simp only [List.append_assoc, List.cons_append, List.nil_append] at e2 ⊢
      exact e2
    rw [List.append_assoc] at q
    exact q
theorem look_app {α : Type} {x : Str} : ∀ {l r : List (Str × α)}, (l ++ r).lookup x = (l.lookup x).or (r.lookup x) := by
  intro l r
  exact List.lookup_append
theorem look_nomem {α : Type} {x : Str} : ∀ {l : List (Str × α)}, x ∉ l.map (·.1) → l.lookup x = none
  | [], _ => rfl
  | (y, v) :: l, h => by
    have h1 : (x == y) = false := by
      rw [beq_eq_false_iff_ne]
      exact fun z => h (by rw [z]; exact List.mem_cons_self)
    rw [List.lookup_cons, h1]
    exact look_nomem fun z => h (List.mem_cons_of_mem _ z)
theorem bind_plain {fd : FuncData} {ps : List Str} {us : List Value} {kw : List (Str × Value)} (p : Plain fd.params ps) (hd : fd.defaults = .none) (hl : us.length ≤ ps.length)
    (hk : ∀ y ∈ kw, y.1 ∈ ps) (hn : (kw.map (·.1)).Nodup) (hs : ∀ y ∈ kw, (ps.zip us).lookup y.1 = none) (hm : ∀ x ∈ ps, ((ps.zip us ++ kw).lookup x).isSome = true) :
    bindArgs fd ⟨us, kw⟩ = pure (ps.filterMap fun n => ((ps.zip us ++ kw).lookup n).map (n, ·)) := by
  unfold bindArgs
  simp only [p.po, p.no, p.kwo, p.va, p.kwa, hd, List.map_nil, List.nil_append, List.append_nil]
  rw [forIn_app kw (ps.zip us) fun pre y post e => ?_]
  · have h0 : (decide (us.length > ps.length) && (none : Option Arg).isNone) = false := by
      rw [Bool.and_eq_false_iff]
      exact .inl (decide_eq_false (by omega))
    have h1 : ∀ n, ((ps.take n).filter fun n => (List.lookup n (ps.zip us ++ kw)).isNone) = [] := fun n => List.filter_eq_nil_iff.mpr fun x hx => by
      have := hm x (List.mem_of_mem_take hx)
      simp [Option.isSome_iff_ne_none] at this ⊢
      exact this
    have e0 : (seqItems? Value.none : Sem _) = pure none := rfl
    have pb : ∀ {α β : Type} (a : α) (f : α → Sem β), ((pure a : Sem α) >>= f) = f a := fun _ _ => rfl
    have e1 : ((none : Option (Array Value)).getD #[]).toList = [] := rfl
    simp only [e0, pb, h0, e1, List.length_nil, List.drop_nil, Nat.sub_zero, List.take_length, List.drop_length, List.zip_nil_right, Bool.false_eq_true, if_false]
    have h2 : (ps.filter fun n => (List.lookup n (ps.zip us ++ kw)).isNone) = [] := by
      have := h1 ps.length
      rw [List.take_length] at this
      exact this
    rw [h2]
    rfl
  · have hm1 : y ∈ kw := by rw [e]; exact List.mem_append_right _ List.mem_cons_self
    have h1 : (ps.contains y.1 || ([] : List Str).contains y.1) = true := by
      rw [Bool.or_eq_true]
      exact .inl (List.elem_eq_true_of_mem (hk y hm1))
    have h2 : (List.lookup y.1 (ps.zip us ++ pre)).isSome = false := by
      rw [look_app, hs y hm1, look_nomem]
      · rfl
      · intro z
        rw [e, List.map_append, List.map_cons] at hn
        exact (List.nodup_append.mp hn).2.2 _ z _ List.mem_cons_self rfl
    rw [if_pos h1, h2]
    rfl
theorem filt_zip {L : Str → Option Value} : ∀ {ps : List Str} {vs : List Value}, ps.length = vs.length → (∀ (i : Nat) (x : Str) (v : Value), ps[i]? = some x → vs[i]? = some v → L x = some v) → (ps.filterMap fun n => (L n).map (n, ·)) = ps.zip vs
  | [], [], _, _ => rfl
  | p :: ps, v :: vs, hl, h => by
    have e : L p = some v := h 0 p v rfl rfl
    rw [List.filterMap_cons, e]
    show (p, v) :: _ = _
    rw [filt_zip (ps := ps) (vs := vs) (by simpa using hl) fun i x w h1 h2 => h (i + 1) x w (by simpa using h1) (by simpa using h2)]
    rfl
theorem look_zip : ∀ {ns : List Str} {vs : List Value} {i : Nat} {x : Str} {v : Value}, ns.Nodup → ns[i]? = some x → vs[i]? = some v → (ns.zip vs).lookup x = some v
  | [], _, _, _, _, _, h, _ => by simp at h
  | _ :: _, [], _, _, _, _, _, h => by simp at h
  | n :: ns, w :: vs, 0, x, v, nd, h1, h2 => by
    simp at h1 h2
    subst h1
    subst h2
    simp [List.lookup_cons]
  | n :: ns, w :: vs, i + 1, x, v, nd, h1, h2 => by
    have e : (x == n) = false := by
      rw [beq_eq_false_iff_ne]
      rintro rfl
      exact (List.nodup_cons.mp nd).1 (List.mem_of_getElem? (by simpa using h1 : ns[i]? = some x))
    rw [List.zip_cons_cons, List.lookup_cons, e]
    exact look_zip (i := i) (List.nodup_cons.mp nd).2 (by simpa using h1) (by simpa using h2)
/-- every parameter is given by its place -/
theorem bind_pos {fd : FuncData} {ps : List Str} {us : List Value} (p : Plain fd.params ps) (hd : fd.defaults = .none) (nd : ps.Nodup) (hl : us.length = ps.length) : bindArgs fd ⟨us, []⟩ = pure (ps.zip us) := by
  have hg : ∀ (i : Nat) (x : Str) (v : Value), ps[i]? = some x → us[i]? = some v → (ps.zip us ++ []).lookup x = some v := fun i x v h1 h2 => by
    rw [List.append_nil]
    exact look_zip nd h1 h2
  rw [bind_plain (kw := ([] : List (Str × Value))) p hd (Nat.le_of_eq hl) (fun y h => absurd h (by simp)) List.nodup_nil (fun y h => absurd h (by simp)) fun x hx => ?_]
  · rw [filt_zip hl.symm hg]
  · obtain ⟨i, h1⟩ := List.mem_iff_getElem?.mp hx
    have hi : i < us.length := by rw [hl]; exact (List.getElem?_eq_some_iff.mp h1).1
    rw [hg i x us[i] h1 (List.getElem?_eq_getElem hi)]
    rfl
/-! ### by name -/
def pick {α : Type} (pm : List Nat) (vs : List α) : Option (List α) := pm.mapM fun j => vs[j]?
/-- the names of what is given, in the order in which it is given; pm: where each parameter stands among it -/
def namesOk (ps ks : List Str) (n : Nat) (pm : List Nat) : Bool := decide (n ≤ ps.length) && decide ((ps.take n ++ ks).Nodup) && decide ((ps.take n ++ ks).length = ps.length) && decide (pm.map (fun j => (ps.take n ++ ks)[j]?) = ps.map some) && ks.all fun x => decide (x ∈ ps)
theorem mapM_get {α β : Type} {f : α → Option β} : ∀ {l : List α} {r : List β}, l.mapM f = some r → l.length = r.length ∧ ∀ (i : Nat) (a : α) (b : β), l[i]? = some a → r[i]? = some b → f a = some b
  | [], r, h => by
    cases h
    exact ⟨rfl, fun i a b h1 _ => by simp at h1⟩
  | x :: l, r, h => by
    rw [List.mapM_cons] at h
    cases e1 : f x with
    | none => rw [e1] at h; cases h
    | some y =>
      cases e2 : l.mapM f with
      | none => rw [e1, e2] at h; cases h
      | some ys =>
        rw [e1, e2] at h
        cases h
        obtain ⟨h1, h2⟩ := mapM_get e2
        refine ⟨by simp [h1], fun i a b q1 q2 => ?_⟩
        cases i with
        | zero =>
          simp at q1 q2
          subst q1
          subst q2
          exact e1
        | succ i => exact h2 i a b (by simpa using q1) (by simpa using q2)
theorem bind_kw {fd : FuncData} {ps ks : List Str} {us ws vs : List Value} {n : Nat} {pm : List Nat} (p : Plain fd.params ps) (hd : fd.defaults = .none) (h : namesOk ps ks n pm = true) (hn : us.length = n) (hw : ws.length = ks.length) (hv : pick pm (us ++ ws) = some vs) :
    bindArgs fd ⟨us, ks.zip ws⟩ = pure (ps.zip vs) := by
  unfold namesOk at h
  simp only [Bool.and_eq_true, decide_eq_true_eq, List.all_eq_true] at h
  obtain ⟨⟨⟨⟨h1, h2⟩, h3⟩, h4⟩, h5⟩ := h
  have e0 : ps.zip us ++ ks.zip ws = (ps.take n ++ ks).zip (us ++ ws) := by
    rw [List.zip_append (by rw [List.length_take]; omega)]
    congr 1
    apply List.ext_getElem?
    intro i
    rw [List.zip_eq_zipWith, List.zip_eq_zipWith, List.getElem?_zipWith, List.getElem?_zipWith]
    by_cases hi : i < n
    · rw [List.getElem?_take_of_lt hi]
    · have : us[i]? = none := List.getElem?_eq_none (by omega)
      rw [this]
      cases ps[i]? <;> cases (ps.take n)[i]? <;> rfl
  have hlv : (us ++ ws).length = ps.length := by
    rw [List.length_append, hn, hw]
    rw [List.length_append, List.length_take] at h3
    omega
  obtain ⟨l1, g1⟩ := mapM_get hv
  have lpm : pm.length = ps.length := by
    have := congrArg List.length h4
    simpa using this
  have hg : ∀ (i : Nat) (x : Str) (v : Value), ps[i]? = some x → vs[i]? = some v → (ps.zip us ++ ks.zip ws).lookup x = some v := fun i x v q1 q2 => by
    have hi : i < pm.length := by
      have := (List.getElem?_eq_some_iff.mp q1).1
      omega
    have q3 : (pm.map fun j => (ps.take n ++ ks)[j]?)[i]? = (ps.map some)[i]? := by rw [h4]
    rw [List.getElem?_map, List.getElem?_map, q1, List.getElem?_eq_getElem hi] at q3
    have q4 : (ps.take n ++ ks)[pm[i]]? = some x := Option.some.inj q3
    rw [e0]
    exact look_zip h2 q4 (g1 i _ _ (List.getElem?_eq_getElem hi) q2)
  have ek : (ks.zip ws).map (·.1) = ks := by rw [List.map_fst_zip (by omega)]
  have eu : (ps.zip us).map (·.1) = ps.take n := by
    apply List.ext_getElem?
    intro i
    rw [List.getElem?_map, List.zip_eq_zipWith, List.getElem?_zipWith]
    by_cases hi : i < n
    · rw [List.getElem?_take_of_lt hi, List.getElem?_eq_getElem (show i < us.length by omega)]
      cases ps[i]? <;> rfl
    · rw [show us[i]? = none from List.getElem?_eq_none (by omega), List.getElem?_eq_none (l := ps.take n) (by rw [List.length_take]; omega)]
      cases ps[i]? <;> rfl
  have hin : ∀ y ∈ ks.zip ws, y.1 ∈ ks := fun y hy => (List.of_mem_zip (show (y.1, y.2) ∈ _ from hy)).1
  rw [bind_plain p hd (by omega) (fun y hy => h5 _ (hin y hy)) (by rw [ek]; exact (List.nodup_append.mp h2).2.1) (fun y hy => look_nomem (by
      rw [eu]
      exact fun z => (List.nodup_append.mp h2).2.2 _ z _ (hin y hy) rfl)) fun x hx => ?_]
  · rw [filt_zip (by omega) hg]
  · obtain ⟨i, h1⟩ := List.mem_iff_getElem?.mp hx
    have hi : i < vs.length := by
      have := (List.getElem?_eq_some_iff.mp h1).1
      omega
    rw [hg i x vs[i] h1 (List.getElem?_eq_getElem hi)]
    rfl
end Fx

set_option Elab.async false
set_option linter.all false
set_option maxRecDepth 100000
set_option maxHeartbeats 1000000
/-! Fx27: what a call gives; names; calls. -/
namespace Fx
open PySem PySem.Spec PyProof.Rows L2 NdefX LamX
/-! ### what a call gives, no context in sight -/
def ExR0 (mg : Str → Option Value) (K : Pw) (W : Wd) (H : Hp) (cls : Value) (d : Option Addr) (ex : Exn) : Prop :=
  ∃ C, cls = .ref C ∧ mg ex.cls = some (.ref C) ∧ ((ex.args = [] ∧ d = none) ∨ ∃ f x v dd, ex.args = [(f, x)] ∧ d = some dd ∧ H dd = some (.xd [(f, v)]) ∧ Rp K W.Hs v x)
def RO (Γ : Gc) (K : Pw) (W : Wd) (n : Nat) (v : V) : Val → Prop
  | .d x => Rp K W.Hs v x
  | .o l => l < n ∧ v = .ref (W.ρ l)
  | .c _ _ => False
  | .g f => ∃ a, Γ.ad f = some a ∧ v = .ref a
def AR (Γ : Gc) (K : Pw) (W : Wd) (H : Hp) (s : Shared) (fs : List Addr) (n : Nat) (v : V) : Val → Prop
  | .d x => Rp K W.Hs v x
  | .o l => l < n ∧ v = .ref (W.ρ l)
  | .c k ws => ∃ (f : Addr) (F : CF) (wvs : List (Option V)) (ci : CI), v = .ref f ∧ Γ.ci k = some ci ∧ F.params = ci.params ∧ F.body = ci.body ∧ F.scope = ci.scope ∧ H f = some (FnC f F) ∧ H F.c = some (CodeO F.c F.qual) ∧
      Paired (fun (wv : Option V) (w : PyData) => ∃ v', wv = some v' ∧ Rp K W.Hs v' w) wvs ws ∧ CellsAt F.cl ci.fr wvs s.heap H ∧ ∀ y c, F.cl.lookup y = some c → c ∉ fs
  | .g f => ∃ a, Γ.ad f = some a ∧ v = .ref a
def PostC (Γ : Gc) (K : Pw) (mg : Str → Option Value) (W : Wd) (H : Hp) (st : Sto) (o : Out Val) (Q : VK) (E : XK) : Prop := match o with
  | .ok a st' => ∀ b W' H', Ext W H st W' H' st' → Rel Γ.T K W' H' st' → RO Γ K W' st'.length b a → Q b H'
  | .err ex st' => ∀ cls d W' H', Ext W H st W' H' st' → Rel Γ.T K W' H' st' → ExR0 mg K W' H' cls d ex → E cls d H'
  | .bad => False
/-- the promise of the defs, of the functions that are made, at a level -/
structure Ctr (Γ : Gc) (P : Program) (w : World) (K : PySem.W.Frag) (mg : Str → Option Value) (base : Heap) (k : Nat) : Prop where
  fi : ∀ f fi, Γ.fi f = some fi → Plain fi.fd.params fi.ps ∧ fi.fd.defaults = .none ∧ fi.ps.Nodup ∧ ∀ fn, Γ.p.fns f = some fn → fn.pars = fi.ps.length
  cp : ∀ c ci, Γ.ci c = some ci → Plain ci.params ci.ps ∧ ci.ps.Nodup ∧ ∀ fn, Γ.p.cls c = some fn → fn.pars = ci.ps.length + ci.fr.length
  fn : ∀ (f : Str) (a : Addr) (fi : FI), Γ.ad f = some a → Γ.fi f = some fi → ∀ (A : Around) (outer : List PySem.Env) (s : Shared) (H : Hp) (args : Args) (us : List Value) (vs : List V) (xs : List Val) (W : Wd) (st : Sto) (Q : VK) (E : XK),
    Room (2 * k) A → A.guards = some [] → Env0 P w K mg base A outer s H → BindsTo s fi.fd args (fi.ps.zip us) → Vals vs us → Rel Γ.T ⟨P, w⟩ W H st → Paired (fun v x => AR Γ ⟨P, w⟩ W H s (frs outer) st.length v x) vs xs →
    PostC Γ ⟨P, w⟩ mg W H st ((tbl Γ.p k).fn f xs st) Q E → codeAny (model P w) A (.call (.ref a) args) (CR (L2.CX P w) outer P w H s Q E) s
  cl : ∀ (c : Nat) (ci : CI) (f : Addr) (F : CF), Γ.ci c = some ci → F.params = ci.params → F.body = ci.body → F.scope = ci.scope → ∀ (A : Around) (outer : List PySem.Env) (s : Shared) (H : Hp) (us : List Value) (vs : List V) (wvs : List (Option V)) (xs : List Val) (ws : List PyData) (W : Wd) (st : Sto) (Q : VK) (E : XK),
    Room (2 * k) A → A.guards = some [] → Env0 P w K mg base A outer s H → H f = some (FnC f F) → H F.c = some (CodeO F.c F.qual) → CellsAt F.cl ci.fr wvs s.heap H → (∀ y c, F.cl.lookup y = some c → c ∉ frs outer) →
    Paired (fun (wv : Option V) (w' : PyData) => ∃ v', wv = some v' ∧ Rp ⟨P, w⟩ W.Hs v' w') wvs ws → Vals vs us → us.length = ci.ps.length → Rel Γ.T ⟨P, w⟩ W H st → Paired (fun v x => AR Γ ⟨P, w⟩ W H s (frs outer) st.length v x) vs xs →
    PostC Γ ⟨P, w⟩ mg W H st ((tbl Γ.p k).cl c ws xs st) Q E → codeAny (model P w) A (.call (.ref f) ⟨us, []⟩) (CR (L2.CX P w) outer P w H s Q E) s
section
variable {Γ : Gc} {X : Cx} {k : Nat} {a e : Expr} {es : List Expr} {pos p : Pos} {Fs : Env → M (List Val)} {i : Nat} {x f : Str} {σ : L2.St} {Wx : WX} {W : Wd} {H : Hp} {st : Sto} {Q : VK} {n : Nat} {s : Shared} {pins : List (Addr × PySem.Obj)}
theorem ar_of (I : Inv X pins σ H s) {v : V} {y : Val} (r : RV Γ X (fun t => t = σ) W H n v y) : AR Γ (kp X) W H s (frs X.stack) n v y := by
  cases y with
  | d x => exact r
  | o l => exact r
  | g f => exact r
  | c k ws =>
    obtain ⟨f, F, wvs, ci, h1, h2, h3, h4, h5, h6, h7, h8, h9, h10⟩ := r
    refine ⟨f, F, wvs, ci, h1, h2, h3, h4, h5, h6, h7, h8, h9 pins s σ H rfl I, fun y c e z => ?_⟩
    obtain ⟨q1, q2, _⟩ := h10 y c e
    rcases List.mem_cons.mp (I.stkSub c z) with z | z
    · exact q1 z
    · exact q2 z
theorem rv_of {v : V} {y : Val} {S : L2.St → Prop} (r : RO Γ (kp X) W n v y) : RV Γ X S W H n v y := by
  cases y with
  | d x => exact r
  | o l => exact r
  | g f => exact r
  | c k ws => exact r.elim
theorem post_c {o : Out Val} (p : Post Γ X (RVs Γ X σ) σ Wx W H st o Q) : PostC Γ (kp X) X.mg W H st o Q (fun cls d H' => Wx cls d σ H') := by
  cases o with
  | ok a st' => exact fun b W' H' x r q => p b W' H' x r (rv_of q)
  | err ex st' => exact fun cls d W' H' x r q => p cls d W' H' x r q
  | bad => exact p
theorem not_bad {o : Out Val} (p : Post Γ X (RVs Γ X σ) σ Wx W H st o Q) : o ≠ .bad := by
  rintro rfl
  exact p
theorem fn_len {p : Prog} {k : Nat} {f : Str} {xs : List Val} {st : Sto} (h : (tbl p k).fn f xs st ≠ .bad) : ∃ fn, p.fns f = some fn ∧ xs.length = fn.pars := by
  cases k with
  | zero => exact (h rfl).elim
  | succ k =>
    cases e : p.fns f with
    | none =>
      exact (h (by show (match p.fns f with | some fn => runF (tbl p k) fn xs | none => M.bad) st = _; rw [e]; rfl)).elim
    | some fn =>
      refine ⟨fn, rfl, Classical.byContradiction fun z => h ?_⟩
      show (match p.fns f with | some fn => runF (tbl p k) fn xs | none => M.bad) st = _
      rw [e]
      show runF (tbl p k) fn xs st = _
      unfold runF
      rw [if_neg z]
      rfl
theorem cl_len {p : Prog} {k : Nat} {c : Nat} {ws : List PyData} {xs : List Val} {st : Sto} (h : (tbl p k).cl c ws xs st ≠ .bad) : ∃ fn, p.cls c = some fn ∧ xs.length + ws.length = fn.pars := by
  cases k with
  | zero => exact (h rfl).elim
  | succ k =>
    cases e : p.cls c with
    | none =>
      exact (h (by show (match p.cls c with | some fn => runF (tbl p k) fn (xs ++ ws.map Val.d) | none => M.bad) st = _; rw [e]; rfl)).elim
    | some fn =>
      refine ⟨fn, rfl, Classical.byContradiction fun z => h ?_⟩
      show (match p.cls c with | some fn => runF (tbl p k) fn (xs ++ ws.map Val.d) | none => M.bad) st = _
      rw [e]
      show runF (tbl p k) fn (xs ++ ws.map Val.d) st = _
      unfold runF
      rw [if_neg (by rw [List.length_append, List.length_map]; exact z)]
      rfl
/-- a call of a def -/
theorem run_g (C : Ctr Γ X.prog X.w X.K X.mg X.base k) (hr : Room (2 * k) X.A) (hgd : X.A.guards = some []) (tk : Takes X Wx) {A : Addr} {fi : FI} (ha : Γ.ad f = some A) (hf : Γ.fi f = some fi) (I : Inv X pins σ H s) {us us' : List Value} {kw : List (Str × Value)} {vs : List V} {xs : List Val} (hb : BindsTo s fi.fd ⟨us, kw⟩ (fi.ps.zip us')) (r : Vals vs us')
    (rel : Rel Γ.T (kp X) W H st) (pr : Paired (fun v y => RV Γ X (fun t => t = σ) W H st.length v y) vs xs) (post : Post Γ X (RVs Γ X σ) σ Wx W H st ((tbl Γ.p k).fn f xs st) Q) : wpAny (model X.prog X.w) X.A (call (.ref A) us kw) (EP X pins σ Q) X.xe s := by
  refine wpAny_call (codeAny_mono (C.fn f A fi ha hf X.A X.stack s H ⟨us, kw⟩ us' vs xs W st Q _ hr hgd I.env0 hb r rel (Paired.mapP pr fun _ _ q => ar_of I q) (post_c post)) fun r s' hq => ?_)
  cases r with
  | error e => exact tk _ _ (XE.of_call I (fun _ _ _ h => h) hq)
  | ok fl =>
    cases fl with
    | ret u => exact I.after hq
    | next => exact False.elim hq
    | brk => exact False.elim hq
    | cont => exact False.elim hq
theorem vals_len {vs : List V} {us : List Value} (r : Vals vs us) : vs.length = us.length := r.length
/-- f(e, ..) -/
theorem de_call (C : Ctr Γ X.prog X.w X.K X.mg X.base k) (hr : Room (2 * k) X.A) (hgd : X.A.guards = some []) (hX : GX Γ X) {A : Addr} {fi : FI} (ha : Γ.ad f = some A) (hf : Γ.fi f = some fi) (hg : Gl X f) (hd : (f == ("__debug__" : Str)) = false) (hs : DA Γ X (e :: es) Fs)
    (he : starEach (e :: es) X.env = (false, eval e X.env) :: starEach es X.env) (hpl : (backTo pos (starEach es X.env)).any (·.1) = false) :
    DE Γ X (.Call (.Name f p) (e :: es) [] pos) (fun ε => M.bind (Fs ε) fun vs => (match perm [] vs with
    | some ws => (tbl Γ.p k).fn f ws
    | none => M.bad)) := fun Wx tk => by
  refine ⟨fun pins s σ H Q I ⟨W, ε, st, rel, env, post⟩ => ?_⟩
  refine wpAny_Call_Name_kw (ld_glob I hg (hX.fn f A ha).1 ?_ hd)
  refine PySem.W.callWith_K (h₀ := X.base) I.ok.mod.kin (hX.fn f A ha).2 (thn ((hs Wx tk).run pos pins s σ H (fun vs H1 => ∃ W1 st1 xs, Rel Γ.T (kp X) W1 H1 st1 ∧ Paired (fun v y => RV Γ X (fun t => t = σ) W1 H1 st1.length v y) vs xs ∧ Post Γ X (RVs Γ X σ) σ Wx W1 H1 st1 ((tbl Γ.p k).fn f xs st1) Q) I
    (tG_of rel env post fun vs xs W1 H1 st1 e1 x1 rel1 env1 r1 p1 => ⟨W1, st1, xs, rel1, r1, p1⟩)) fun us s1 ⟨vs, H1, I1, r, W1, st1, xs, rel1, pr, p1⟩ => ⟨I1.kIn, ?_⟩) he hpl
  obtain ⟨q1, q2, q3, q4⟩ := C.fi f fi hf
  obtain ⟨fn, e1, e2⟩ := fn_len (not_bad p1)
  show wpAny _ _ (call (.ref A) us) _ _ _
  exact run_g C hr hgd tk ha hf I1 (.of_eq (bind_pos q1 q2 q3 (by rw [← r.length, pr.length, e2, q4 fn e1]))) r rel1 pr p1
/-- f() -/
theorem de_call0 (C : Ctr Γ X.prog X.w X.K X.mg X.base k) (hr : Room (2 * k) X.A) (hgd : X.A.guards = some []) (hX : GX Γ X) {A : Addr} {fi : FI} (ha : Γ.ad f = some A) (hf : Γ.fi f = some fi) (hg : Gl X f) (hd : (f == ("__debug__" : Str)) = false) :
    DE Γ X (.Call (.Name f p) [] [] pos) (fun _ => (tbl Γ.p k).fn f []) := fun Wx tk => by
  refine ⟨fun pins s σ H Q I ⟨W, ε, st, rel, env, post⟩ => ?_⟩
  refine wpAny_Call_Name_kw (ld_glob I hg (hX.fn f A ha).1 ?_ hd)
  refine PySem.W.callWith_K0 I.kIn (hX.fn f A ha).2 ?_
  obtain ⟨q1, q2, q3, q4⟩ := C.fi f fi hf
  obtain ⟨fn, e1, e2⟩ := fn_len (not_bad post)
  show wpAny _ _ (call (.ref A) []) _ _ _
  exact run_g (us := []) C hr hgd tk ha hf I (.of_eq (bind_pos q1 q2 q3 (by rw [← q4 fn e1, ← e2]; rfl))) .nil rel .nil post
/-! ### by name -/
theorem plain_args : ∀ {es : List Expr}, es.all unstar = true → (backTo pos (starEach es X.env)).any (·.1) = false
  | [], _ => rfl
  | e :: es, h => by
    rw [List.all_cons, Bool.and_eq_true] at h
    rw [star_cons h.1]
    show (false || _) = false
    rw [Bool.false_or]
    exact plain_args h.2
theorem kw_all : ∀ {kws : List Keyword} {ks : List Str}, kws.map (·.arg) = ks.map some → (backToKw pos (keywordEach kws X.env)).all (·.1.isSome) = true ∧ (backToKw pos (keywordEach kws X.env)).filterMap (·.1) = ks ∧ (backToKw pos (keywordEach kws X.env)).any (·.1.isNone) = false
  | [], ks, h => by
    cases ks with
    | nil => exact ⟨rfl, rfl, rfl⟩
    | cons k ks => cases h
  | ⟨nm, e, kp⟩ :: kws, ks, h => by
    cases ks with
    | nil => cases h
    | cons k ks =>
      simp only [List.map_cons, List.cons.injEq] at h
      obtain ⟨h1, h2⟩ := h
      obtain ⟨a1, a2, a3⟩ := kw_all h2
      subst h1
      refine ⟨a1, ?_, a3⟩
      show k :: List.filterMap (·.1) (backToKw pos (keywordEach kws X.env)) = _
      rw [a2]
def DK (Γ : Gc) (X : Cx) (kws : List Keyword) (F : Env → M (List Val)) : Prop := ∀ Wx, Takes X Wx → PK X kws fun σ H Q => tAs Γ X F Wx σ H fun vs H1 => vs.length = kws.length → Q vs H1
theorem _root_.L2.PK.imp {X : Cx} {e : List Keyword} {t t' : TA} (h : PK X e t) (k : ∀ σ H Q, t' σ H Q → t σ H Q) : PK X e t' := ⟨fun pos pins s σ H Q I q => h.run pos pins s σ H Q I (k σ H Q q)⟩
theorem dk_nil : DK Γ X [] (fun _ => M.pure []) := fun Wx tk => pk_nil.imp fun σ H Q ⟨W, ε, st, rel, env, post⟩ => run_pure post rel .nil rfl
theorem dk_cons {Fa : Env → M Val} {nm : Option Str} {kpos : Pos} {kws : List Keyword} (ha : DE Γ X e Fa) (hs : DK Γ X kws Fs) : DK Γ X (⟨nm, e, kpos⟩ :: kws) (fun ε => M.bind (Fa ε) fun v => M.bind (Fs ε) fun vs => M.pure (v :: vs)) := fun Wx tk =>
  (pk_cons (ha Wx tk) (hs Wx tk)).imp fun σ H Q ⟨W, ε, st, rel, env, post⟩ => tG_of rel env post fun v x W1 H1 st1 e1 x1 rel1 env1 r1 p1 => tG_of rel1 env1 p1 fun us ys W2 H2 st2 e2 x2 rel2 env2 r2 p2 => by
    exact fun hl => run_pure p2 rel2 (.cons (r1.ext rel1 x2) r2) (by rw [List.length_cons, List.length_cons, hl])
theorem pair_r {α β : Type} {r : α → β → Prop} : ∀ {vs : List α} {us : List β} {i : Nat} {u : β}, Paired r vs us → us[i]? = some u → ∃ v, vs[i]? = some v ∧ r v u
  | _, _, _, _, .nil, e => by simp at e
  | _, _, 0, _, .cons r _, e => by simp at e; subst e; exact ⟨_, rfl, r⟩
  | _, _, i + 1, u, .cons _ t, e => by
    obtain ⟨v, h1, h2⟩ := pair_r (i := i) t (by simpa using e)
    exact ⟨v, by simpa using h1, h2⟩
theorem pair_l {α β : Type} {r : α → β → Prop} : ∀ {vs : List α} {us : List β} {i : Nat} {v : α}, Paired r vs us → vs[i]? = some v → ∃ u, us[i]? = some u ∧ r v u
  | _, _, _, _, .nil, e => by simp at e
  | _, _, 0, _, .cons r _, e => by simp at e; subst e; exact ⟨_, rfl, r⟩
  | _, _, i + 1, u, .cons _ t, e => by
    obtain ⟨v, h1, h2⟩ := pair_l (i := i) t (by simpa using e)
    exact ⟨v, by simpa using h1, h2⟩
theorem pick_cons {α : Type} {j : Nat} {pm : List Nat} {us us' : List α} (h : pick (j :: pm) us = some us') : ∃ u us2, us[j]? = some u ∧ pick pm us = some us2 ∧ us' = u :: us2 := by
  unfold pick at h
  rw [List.mapM_cons] at h
  cases e1 : us[j]? with
  | none => rw [e1] at h; cases h
  | some u =>
    rw [e1] at h
    cases e2 : pm.mapM (fun j => us[j]?) with
    | none => rw [e2] at h; cases h
    | some us2 =>
      rw [e2] at h
      cases h
      exact ⟨u, us2, rfl, e2, rfl⟩
theorem pick_mk {α : Type} {j : Nat} {pm : List Nat} {us us2 : List α} {u : α} (h1 : us[j]? = some u) (h2 : pick pm us = some us2) : pick (j :: pm) us = some (u :: us2) := by
  unfold pick at h2 ⊢
  rw [List.mapM_cons, h1, h2]
  rfl
theorem pick_r {α β : Type} {r : α → β → Prop} : ∀ {pm : List Nat} {vs : List α} {us : List β} {us' : List β}, Paired r vs us → pick pm us = some us' → ∃ vs', pick pm vs = some vs' ∧ Paired r vs' us'
  | [], vs, us, us', _, h => by cases h; exact ⟨[], rfl, .nil⟩
  | j :: pm, vs, us, us', r, h => by
    obtain ⟨u, us2, h1, h2, rfl⟩ := pick_cons h
    obtain ⟨v, h3, h4⟩ := pair_r r h1
    obtain ⟨vs2, h5, h6⟩ := pick_r (pm := pm) r h2
    exact ⟨v :: vs2, pick_mk h3 h5, .cons h4 h6⟩
theorem pick_l {α β : Type} {r : α → β → Prop} : ∀ {pm : List Nat} {vs vs' : List α} {us : List β}, Paired r vs us → pick pm vs = some vs' → ∃ us', pick pm us = some us' ∧ Paired r vs' us'
  | [], vs, vs', us, _, h => by cases h; exact ⟨[], rfl, .nil⟩
  | j :: pm, vs, vs', us, r, h => by
    obtain ⟨u, us2, h1, h2, rfl⟩ := pick_cons h
    obtain ⟨v, h3, h4⟩ := pair_l r h1
    obtain ⟨vs2, h5, h6⟩ := pick_l (pm := pm) r h2
    exact ⟨v :: vs2, pick_mk h3 h5, .cons h4 h6⟩
theorem perm_pick {pm : List Nat} {xs ys : List Val} (hp : pm ≠ []) (h : perm pm xs = some ys) : pick pm xs = some ys := by
  cases pm with
  | nil => exact (hp rfl).elim
  | cons j pm => exact h
/-- f(k = v, ..) -/
theorem de_callK0 (C : Ctr Γ X.prog X.w X.K X.mg X.base k) (hr : Room (2 * k) X.A) (hgd : X.A.guards = some []) (hX : GX Γ X) {A : Addr} {fi : FI} {kws : List Keyword} {ks : List Str} {pm : List Nat} (ha : Γ.ad f = some A) (hf : Γ.fi f = some fi) (hg : Gl X f) (hd : (f == ("__debug__" : Str)) = false) (hs : DK Γ X kws Fs)
    (hk : kws.map (·.arg) = ks.map some) (hn : namesOk fi.ps ks 0 pm = true) (hp : pm ≠ []) :
    DE Γ X (.Call (.Name f p) [] kws pos) (fun ε => M.bind (Fs ε) fun vs => (match perm pm vs with
    | some ws => (tbl Γ.p k).fn f ws
    | none => M.bad)) := fun Wx tk => by
  refine ⟨fun pins s σ H Q I ⟨W, ε, st, rel, env, post⟩ => ?_⟩
  obtain ⟨k1, k2, k3⟩ := kw_all (X := X) (pos := pos) hk
  refine wpAny_Call_Name_kw (ld_glob I hg (hX.fn f A ha).1 ?_ hd)
  refine PySem.W.callWith_KW0 (h₀ := X.base) I.ok.mod.kin (hX.fn f A ha).2 k1 (thn ((hs Wx tk).run pos pins s σ H (fun vs H1 => vs.length = kws.length ∧ ∃ W1 st1 xs, Rel Γ.T (kp X) W1 H1 st1 ∧ Paired (fun v y => RV Γ X (fun t => t = σ) W1 H1 st1.length v y) vs xs ∧ Post Γ X (RVs Γ X σ) σ Wx W1 H1 st1 ((match perm pm xs with
    | some ws => (tbl Γ.p k).fn f ws
    | none => M.bad) st1) Q) I
    (tG_of rel env post fun vs xs W1 H1 st1 e1 x1 rel1 env1 r1 p1 hl => ⟨hl, W1, st1, xs, rel1, r1, p1⟩)) fun us s1 ⟨vs, H1, I1, r, hlv, W1, st1, xs, rel1, pr, p1⟩ => ⟨I1.kIn, ?_⟩) (by rw [k3]; rfl)
  obtain ⟨q1, q2, q3, q4⟩ := C.fi f fi hf
  cases ep : perm pm xs with
  | none => rw [ep] at p1; exact p1.elim
  | some xs' =>
    rw [ep] at p1
    obtain ⟨vs', e1, r1⟩ := pick_r pr (perm_pick hp ep)
    obtain ⟨us', e2, r2⟩ := pick_l r e1
    rw [k2]
    have hl : us.length = ks.length := by
      have := congrArg List.length hk
      rw [List.length_map, List.length_map] at this
      rw [← r.length, hlv, this]
    show wpAny _ _ (call (.ref A) [] (ks.zip us)) _ _ _
    exact run_g C hr hgd tk ha hf I1 (.of_eq (bind_kw (us := []) q1 q2 hn rfl hl e2)) r2 rel1 r1 p1
end
end Fx

set_option Elab.async false
set_option linter.all false
set_option maxRecDepth 100000
set_option maxHeartbeats 1000000
/-! Fx28: names; calls of names. -/
namespace Fx
open PySem PySem.Spec PyProof.Rows L2 NdefX LamX
section
variable {Γ : Gc} {X : Cx} {k : Nat} {a e : Expr} {es : List Expr} {pos p : Pos} {Fs : Env → M (List Val)} {i : Nat} {x f : Str} {σ : L2.St} {Wx : WX} {W : Wd} {H : Hp} {st : Sto} {Q : VK} {n : Nat} {s : Shared} {pins : List (Addr × PySem.Obj)}
theorem pair_slots {ε : Env} (env : EnvR Γ X W H n σ ε) : ∀ {js : List Nat} {ws : List PyData}, Paired (fun (j : Nat) (w : PyData) => rdV ε j = some w) js ws → Paired (fun (wv : Option V) (w : PyData) => ∃ v', wv = some v' ∧ Rp (kp X) W.Hs v' w) (js.map (slotAt σ)) ws
  | _, _, .nil => .nil
  | _, _, .cons h t => by
    obtain ⟨v, h1, h2⟩ := rdV_at env h
    exact .cons ⟨v, slotAt_of h1, h2⟩ (pair_slots env t)
/-- what a name's slot holds -/
theorem caps_out (I : Inv X pins σ H s) {cl : List (Str × Addr)} {fr : List Str} {js : List Nat} (c : Caps X cl fr js) (hf : ∀ y c, cl.lookup y = some c → c ∉ X.fs) : ∀ y a, cl.lookup y = some a → a ≠ X.env.locals ∧ a ∉ X.fs ∧ a ∉ X.ex := fun y a e =>
  ⟨I.cne y a (c.sub y a e), hf y a e, fun hb => (I.ok.exf a hb).2 y a (c.sub y a e) rfl⟩
/-- what a name's slot holds -/
theorem var_rv (I : Inv X pins σ H s) {ε : Env} (env : EnvR Γ X W H n σ ε) {y : Val} {st1 st2 : Sto} (h : varV ε i st1 = .ok y st2) : st2 = st1 ∧ ∃ v, σ[i]? = some (some v) ∧ RV Γ X (fun t => t = σ) W H n v y := by
  unfold varV at h
  cases e : ε[i]? with
  | none => rw [e] at h; cases h
  | some o =>
    rw [e] at h
    cases o with
    | none => cases h
    | some z =>
      obtain ⟨v, h1, h2⟩ := env.at_ i z e
      cases z with
      | v w =>
        cases h
        exact ⟨rfl, v, h1, RV.imp (x := y) h2 fun _ _ => trivial⟩
      | nd c js =>
        simp only at h
        cases ec : capD ε js with
        | none => rw [ec] at h; cases h
        | some ws =>
          rw [ec] at h
          cases h
          obtain ⟨f, F, ci, q1, q2, q3, q4, q5, q6, q7, q8, q9⟩ := h2
          refine ⟨rfl, v, h1, f, F, js.map (slotAt σ), ci, q1, q2, q3, q4, q5, q6, q7, pair_slots env (caps_pl ec), fun pins s σ' H' e J => ?_, caps_out I (q8 I.ok) q9⟩
          subst e
          exact cells_of J (q8 J.ok)
theorem var_out {ε : Env} : (∃ y, varV ε i st = .ok y st) ∨ varV ε i st = .bad := by
  unfold varV
  cases e : ε[i]? with
  | none => exact .inr rfl
  | some o =>
    cases o with
    | none => exact .inr rfl
    | some z =>
      cases z with
      | v w => exact .inl ⟨w, rfl⟩
      | nd c js =>
        cases ec : capD ε js with
        | none => simp only [ec]; exact .inr rfl
        | some ws => simp only [ec]; exact .inl ⟨_, rfl⟩
theorem post_var {α β : Type} {R : Rl α β} {ε : Env} {g : Val → M α} {Q : β → Hp → Prop} (p : Post Γ X R σ Wx W H st (M.bind (varV ε i) g st) Q) : ∃ y, varV ε i st = .ok y st ∧ Post Γ X R σ Wx W H st (g y st) Q := by
  unfold M.bind at p
  rcases var_out (ε := ε) (i := i) (st := st) with ⟨y, e⟩ | e
  · rw [e] at p
    exact ⟨y, e, p⟩
  · rw [e] at p
    exact p.elim
theorem de_var (hN : X.N[i]? = some x) (hv : Vis X.env.scope x) (hd : (x == ("__debug__" : Str)) = false) (hcd : (x == ("__classdict__" : Str)) = false) : DE Γ X (.Name x pos) (fun ε => varV ε i) := fun Wx tk => by
  refine ⟨fun pins s σ H Q I ⟨W, ε, st, rel, env, post⟩ => ?_⟩
  have post : Post Γ X (RVs Γ X σ) σ Wx W H st (varV ε i st) Q := post
  rw [← M.pure_bind (varV ε i)] at post
  obtain ⟨y, e1, p1⟩ := post_var post
  obtain ⟨_, v, h1, h2⟩ := var_rv I env e1
  exact (pe_var (pos := pos) hN hv hd hcd).run pins s σ H Q I ⟨v, h1, run_pure p1 rel h2⟩
theorem fnAt_ofC {f : Addr} {F : CF} (I : Inv X pins σ H s) (e : H f = some (FnC f F)) : PySem.W.FnAt f s.heap := by
  obtain ⟨⟨od, sl, doc, pm, ctv, ho⟩, _, _⟩ := I.hok f _ e
  exact ⟨_, od, _, sl, ho⟩
/-- a call of a function that was made here, or was given -/
theorem run_v (C : Ctr Γ X.prog X.w X.K X.mg X.base k) (hr : Room (2 * k) X.A) (hgd : X.A.guards = some []) (tk : Takes X Wx) {v : V} {y : Val} (I : Inv X pins σ H s) (ry : RV Γ X (fun t => t = σ) W H st.length v y) {vs : List V} {us : List Value} {xs : List Val} (r : Vals vs us) (hg : ∀ g, y = .g g → ∃ fi, Γ.fi g = some fi)
    (rel : Rel Γ.T (kp X) W H st) (pr : Paired (fun v y => RV Γ X (fun t => t = σ) W H st.length v y) vs xs) (post : Post Γ X (RVs Γ X σ) σ Wx W H st (callV (tbl Γ.p k) y xs st) Q) : ∃ A, v = .ref A ∧ wpAny (model X.prog X.w) X.A (call (.ref A) us) (EP X pins σ Q) X.xe s := by
  cases y with
  | d x => exact post.elim
  | o l => exact post.elim
  | g f =>
    obtain ⟨A, ha, hv⟩ := ry
    obtain ⟨fi, hf⟩ := hg f rfl
    refine ⟨A, hv, ?_⟩
    have p1 : Post Γ X (RVs Γ X σ) σ Wx W H st ((tbl Γ.p k).fn f xs st) Q := post
    obtain ⟨q1, q2, q3, q4⟩ := C.fi f fi hf
    obtain ⟨fn, e1, e2⟩ := fn_len (not_bad p1)
    exact run_g C hr hgd tk ha hf I (.of_eq (bind_pos q1 q2 q3 (by rw [← r.length, pr.length, e2, q4 fn e1]))) r rel pr p1
  | c c ws =>
    obtain ⟨f, F, wvs, ci, h1, h2, h3, h4, h5, h6, h7, h8, h9, h10⟩ := ry
    refine ⟨f, h1, ?_⟩
    have p1 : Post Γ X (RVs Γ X σ) σ Wx W H st ((tbl Γ.p k).cl c ws xs st) Q := post
    obtain ⟨q1, q2, q3⟩ := C.cp c ci h2
    obtain ⟨fn, e1, e2⟩ := cl_len (not_bad p1)
    have C1 := h9 pins s σ H rfl I
    have hl : us.length = ci.ps.length := by
      have l1 := C1.len
      have l2 := h8.length
      have l3 := q3 fn e1
      have l4 := pr.length
      have l5 := r.length
      omega
    refine wpAny_call (codeAny_mono (C.cl c ci f F h2 h3 h4 h5 X.A X.stack s H us vs wvs xs ws W st Q _ hr hgd I.env0 h6 h7 C1 (fun y c e z => ?_) h8 r hl rel (Paired.mapP pr fun _ _ q => ar_of I q) (post_c p1)) fun r s' hq => ?_)
    · obtain ⟨q1, q2, _⟩ := h10 y c e
      rcases List.mem_cons.mp (I.stkSub c z) with z | z
      · exact q1 z
      · exact q2 z
    · cases r with
      | error e => exact tk _ _ (XE.of_call I (fun _ _ _ h => h) hq)
      | ok fl =>
        cases fl with
        | ret u => exact I.after hq
        | next => exact False.elim hq
        | brk => exact False.elim hq
        | cont => exact False.elim hq
theorem de_callv (C : Ctr Γ X.prog X.w X.K X.mg X.base k) (hr : Room (2 * k) X.A) (hgd : X.A.guards = some []) (hX : GX Γ X) (hgf : ∀ g A, Γ.ad g = some A → ∃ fi, Γ.fi g = some fi) (hN : X.N[i]? = some x) (hv : Vis X.env.scope x) (hd : (x == ("__debug__" : Str)) = false) (hcd : (x == ("__classdict__" : Str)) = false) (hs : DA Γ X (e :: es) Fs)
    (he : starEach (e :: es) X.env = (false, eval e X.env) :: starEach es X.env) (hpl : (backTo pos (starEach es X.env)).any (·.1) = false) :
    DE Γ X (.Call (.Name x p) (e :: es) [] pos) (fun ε => M.bind (varV ε i) fun f => if isF f then M.bind (Fs ε) fun vs => callV (tbl Γ.p k) f vs else M.bad) := fun Wx tk => by
  refine ⟨fun pins s σ H Q I ⟨W, ε, st, rel, env, post⟩ => ?_⟩
  obtain ⟨y, e1, p1⟩ := post_var post
  obtain ⟨_, v, h1, ry⟩ := var_rv I env e1
  have hy : isF y = true := by
    cases h : isF y with
    | true => rfl
    | false => rw [h] at p1; exact p1.elim
  rw [hy] at p1
  have p1 : Post Γ X (RVs Γ X σ) σ Wx W H st (M.bind (Fs ε) (fun vs => callV (tbl Γ.p k) y vs) st) Q := p1
  have hgg : ∀ g, y = .g g → ∃ fi, Γ.fi g = some fi := by
    rintro g rfl
    obtain ⟨A, ha, _⟩ := ry
    exact hgf g A ha
  refine wpAny_Call_Name_kw (thn ((pe_var (pos := p) hN hv hd hcd).run pins s σ H (fun u H1 => u = v ∧ H1 = H) I ⟨v, h1, rfl, rfl⟩) fun u s1 ⟨v1, H1, I1, r1, q1⟩ => ?_)
  obtain ⟨ev, eH⟩ := q1
  subst ev
  rw [eH] at I1
  have args := fun (s2 : Shared) (I2 : Inv X pins σ H s2) => (hs Wx tk).run pos pins s2 σ H (fun vs H1 => ∃ W1 st1 xs, Rel Γ.T (kp X) W1 H1 st1 ∧ RV Γ X (fun t => t = σ) W1 H1 st1.length v1 y ∧ Paired (fun v y => RV Γ X (fun t => t = σ) W1 H1 st1.length v y) vs xs ∧ Post Γ X (RVs Γ X σ) σ Wx W1 H1 st1 (callV (tbl Γ.p k) y xs st1) Q) I2
    (tG_of rel env p1 fun vs xs W1 H1 st1 e1 x1 rel1 env1 r1 p2 => ⟨W1, st1, xs, rel1, ry.ext rel x1, r1, p2⟩)
  cases y with
  | d d => cases hy
  | o l => cases hy
  | g f =>
    obtain ⟨A, ha, rfl⟩ := ry
    obtain rfl : u = Value.ref A := r1
    refine PySem.W.callWith_K (h₀ := X.base) I1.ok.mod.kin (hX.fn f A ha).2 (thn (args s1 I1) fun us s2 ⟨vs, H2, I2, r, W1, st1, xs, rel1, ry1, pr, p2⟩ => ⟨I2.kIn, ?_⟩) he hpl
    obtain ⟨A', eA, w⟩ := run_v C hr hgd tk I2 ry1 r hgg rel1 pr p2
    cases eA
    exact w
  | c c ws =>
    obtain ⟨f, F, wvs, ci, rfl, h2, h3, h4, h5, h6, h7, h8, h9, h10⟩ := ry
    obtain rfl : u = Value.ref f := r1
    refine PySem.W.callWith_F (first := []) (fnAt_ofC I1 h6) (thn (args s1 I1) fun us s2 ⟨vs, H2, I2, r, W1, st1, xs, rel1, ry1, pr, p2⟩ => ?_) he hpl
    have ry2 := ry1
    obtain ⟨f', F', _, _, ef, _, _, _, _, h6', _⟩ := ry2
    cases ef
    refine ⟨fnAt_ofC I2 h6', ?_⟩
    obtain ⟨A', eA, w⟩ := run_v C hr hgd tk I2 ry1 r hgg rel1 pr p2
    cases eA
    exact w
end
end Fx

set_option Elab.async false
set_option linter.all false
set_option maxRecDepth 100000
set_option maxHeartbeats 1000000
/-! Fx29: functions that are made: a def within a def, a lambda. -/
namespace Fx
open PySem PySem.Spec PyProof.Rows L2 NdefX LamX
section
variable {M : Model} {A : Around} {E : Value → Shared → Prop} {s : Shared} {mg : Str → Option Value} {name qual : Str} {params : Arguments} {scope : Scope} {env : PySem.Env} {c P : Addr} {ps : Array Value} {pos : Pos} {firstLine : Nat} {clos : List (Str × Addr)} {Q : Value → Shared → Prop}
theorem make_hit {cv : Addr} {body : FuncBody} (hcl : closureFor scope env = pure clos) (hge0 : env.globals = mainGlobals) (hg : s.heap.Ns mainGlobals mg) (hcode : env.code = .ref c) (C : PySem.W.CodeHd s.heap c P) (hP : s.heap.get? P = some (PySem.W.tabObj ps)) (ht : TriplesOk ps.toList)
    (hf : codeAmong pos ps.toList = some (.ref cv)) (hb : s.heap.BuiltinsAt mg P)
    (h : ∀ (ctv doc : Value) (h' : Heap) (tk : Tok), (∀ b o, s.heap.get? b = some o → h'.get? b = some o) → s.heap.objs.size ≤ h'.objs.size →
      Q (.ref h'.objs.size) { s with heap := h'.push { cls := .type "function", data := .func ((CF.mk name qual params body scope clos cv).fd doc ((mg "__name__").getD .none) ctv) }, toks := tk }) :
    wpAny M A (makeFunction name qual params body scope env [] [] [] pos firstLine) Q E s := by
  cases body with
  | stmts b => exact PySem.W.makeFunction_hit hcl hge0 hg hcode C hP ht hf hb fun ctv doc h' tk x y => h ctv doc h' tk x y
  | expr b => exact PySem.W.kla_makeFunctionHit hcl hge0 hg hcode C hP ht hf hb fun ctv h' tk x y => h ctv .none h' tk x y
theorem make_new {body : FuncBody} (hcl : closureFor scope env = pure clos) (hge0 : env.globals = mainGlobals) (hg : s.heap.Ns mainGlobals mg) (hcode : env.code = .ref c) (C : PySem.W.CodeHd s.heap c P) (hP : s.heap.get? P = some (PySem.W.tabObj ps)) (ht : TriplesOk ps.toList)
    (hnf : codeAmong pos ps.toList = none) (hgP : mainGlobals ≠ P) (hb : s.heap.BuiltinsAt mg P)
    (h : ∀ c' ctv doc h' tk, Heap.ExtBut P s.heap h' → s.heap.objs.size ≤ c' → c' < h'.objs.size → h'.CodeRec (.ref c') qual → h'.get? P = some (PySem.W.tabObj (ps ++ #[rawInt pos.line, rawInt pos.col, .ref c'])) →
      Q (.ref h'.objs.size) { s with heap := h'.push { cls := .type "function", data := .func ((CF.mk name qual params body scope clos c').fd doc ((mg "__name__").getD .none) ctv) }, toks := tk }) :
    wpAny M A (makeFunction name qual params body scope env [] [] [] pos firstLine) Q E s := by
  cases body with
  | stmts b => exact PySem.W.makeFunction_K hcl hge0 hg hcode C hP ht hnf hgP hb fun c' ctv doc h' tk x1 x2 x3 x4 x5 => h c' ctv doc h' tk x1 x2 x3 x4 x5
  | expr b => exact PySem.W.kla_makeFunction hcl hge0 hg hcode C hP ht hnf hgP hb fun c' ctv h' tk x1 x2 x3 x4 x5 => h c' ctv .none h' tk x1 x2 x3 x4 x5
end
section
variable {X : Cx} {pins : List (Addr × PySem.Obj)} {σ : L2.St} {H : Hp} {s : Shared}
theorem inv_fnC {F : CF} {o : PySem.Obj} {t' : Nat} {doc pm ctv : Value} (I : Inv X pins σ H s) (ho : o = { cls := .type "function", data := .func (F.fd doc pm ctv) }) :
    Inv X pins σ (upd H s.heap.objs.size (FnC s.heap.objs.size F)) { s with heap := s.heap.push o, toks := t' } := by
  subst ho
  refine I.laid (a := s.heap.objs.size) (fun b u e => Heap.get?_push_of_some _ e) (Nat.le_refl _) ?_
  have e : (s.heap.push ({ cls := .type "function", data := .func (F.fd doc pm ctv) } : PySem.Obj)).get? s.heap.objs.size = some ({ cls := .type "function", data := .func (F.fd doc pm ctv) } : PySem.Obj) := Heap.get?_push_size _ rfl
  exact ⟨⟨_, _, doc, pm, ctv, e⟩, ⟨_, e⟩, fun h1 h2 ⟨od, sl, d, p, t, z⟩ st => ⟨od, sl, d, p, t, st _ z⟩⟩
/-- what the making of a function changes in the abstract heap -/
structure Made (T : List NTab) (H H1 : Hp) (f c' : Addr) (F : CF) : Prop where
  ext : ExtN H H1
  nn : ∀ b, H1 b = none → H b = none
  tb : ∀ a ps, H a = some (.tbl ps) → ∃ ps', H1 a = some (.tbl ps')
  tab : TabsN T H1
  f0 : H f = none
  f1 : H1 f = some (FnC f F)
  c1 : H1 F.c = some (CodeO F.c F.qual)
theorem fn_make {T : List NTab} {nm : Nat → Nat → Str} {c P : Addr} {name : Str} {params : Arguments} {body : FuncBody} {scope : Scope} {pos : Pos} {E : Value → Shared → Prop} {Q : Value → Shared → Prop} (I : Inv X pins σ H s) (TB : TabB X.base X.mg c P) (hcode : X.env.code = .ref c)
    (hm : (P, nm) ∈ T) (hn : nm pos.line pos.col = X.env.qual ++ name) (hu : ∀ p ∈ T, p.1 = P → p.2 = nm) (hT : TabsN T H) (hfree : ∀ y ∈ scope.names, y.2 = .free → ∃ c, X.env.cells.lookup y.1 = some c)
    (h : ∀ (f c' : Addr) (H1 : Hp) (s' : Shared), Inv X pins σ H1 s' → Made T H H1 f c' ⟨name, X.env.qual ++ name, params, body, scope, cloFrom X.env.cells scope.names [], c'⟩ → Q (.ref f) s') :
    wpAny (model X.prog X.w) X.A (makeFunction name (X.env.qual ++ name) params body scope X.env [] [] [] pos pos.line) Q E s := by
  obtain ⟨ps, hP, ht, ha⟩ := (show TabN H P nm from hT _ hm)
  have bP : s.heap.BuiltinsAt X.mg P := TB.bm.keeps I.bk
  have hP' : s.heap.get? P = some { cls := .none, data := .fields ps } := I.hok P _ hP
  cases hc : codeAmong pos ps.toList with
  | none =>
    refine make_new (mg := X.mg) (c := c) (P := P) (ps := ps) (closure_ok hfree) I.ok.glob (I.mod.glob.keeps I.bk) hcode (TB.code.keeps I.bk) hP' ht hc TB.gP bP fun c' ctv doc h' tk hx hge hlt hrec htb => ?_
    obtain ⟨c2, oc, vs, t, e2, hoc, hd, hv⟩ := hrec
    cases e2
    have nC : H c' = none := I.hok.fresh hge
    have I1 := inv_table (t' := tk) (more := #[rawInt pos.line, rawInt pos.col, .ref c']) (h' := h') I hP (fun b o hb e => hx b o hb e) htb hge ⟨oc, vs, t, hoc, hd, hv⟩
    have hE : ExtN H (upd (upd H P (.tbl (ps ++ #[rawInt pos.line, rawInt pos.col, .ref c']))) c' (CodeO c' (X.env.qual ++ name))) := fun b o e n => by
      rw [upd_ne (ne_of_none e nC), upd_ne (fun z => n ps (Option.some.inj (e.symm.trans (by rw [z]; exact hP))))]
      exact e
    have eL : (ps ++ #[rawInt pos.line, rawInt pos.col, .ref c']).toList = ps.toList ++ [rawInt pos.line, rawInt pos.col, .ref c'] := by simp
    have T1 : TabsN T (upd (upd H P (.tbl (ps ++ #[rawInt pos.line, rawInt pos.col, .ref c']))) c' (CodeO c' (X.env.qual ++ name))) := fun p hp => by
      by_cases hb : p.1 = P
      · rw [hu p hp hb, hb]
        refine ⟨_, by rw [upd_ne (ne_of_none hP nC), upd_same], by rw [eL]; exact PySem.TriplesOk_snoc _ _ _ _ ht, fun p' cv hcv => ?_⟩
        rw [eL] at hcv
        rcases among_app2 _ ht hcv with z | ⟨z, z1, z2⟩
        · obtain ⟨c0, e1, e2⟩ := ha p' cv z
          exact ⟨c0, e1, hE _ _ e2 codeO_ne⟩
        · refine ⟨c', z, ?_⟩
          rw [← z1, ← z2, hn]
          exact upd_same
      · obtain ⟨ps', a1, a2, a3⟩ := hT p hp
        refine ⟨ps', by rw [upd_ne (ne_of_none a1 nC), upd_ne hb]; exact a1, a2, fun p' cv hcv => ?_⟩
        obtain ⟨c0, e1, e2⟩ := a3 p' cv hcv
        exact ⟨c0, e1, hE _ _ e2 codeO_ne⟩
    have nF := I1.hok.fresh (Nat.le_refl _)
    have I2 := inv_fnC (F := ⟨name, X.env.qual ++ name, params, body, scope, cloFrom X.env.cells scope.names [], c'⟩) (t' := tk) (doc := doc) (pm := (X.mg "__name__").getD .none) (ctv := ctv) I1 rfl
    refine h h'.objs.size c' _ _ I2 ⟨fun b o e n => ?_, fun b e => upd_none (upd_none (upd_none e)), fun a qs e => ?_, T1.ext fun b o e => ?_, I.hok.fresh (Nat.le_trans hge (Nat.le_of_lt hlt)), upd_same, ?_⟩
    · have e1 := hE b o e n
      exact (upd_ne (ne_of_none e1 nF)).trans e1
    · by_cases hb : a = P
      · subst hb
        have e1 : upd (upd H a (.tbl (ps ++ #[rawInt pos.line, rawInt pos.col, .ref c']))) c' (CodeO c' (X.env.qual ++ name)) a = some (.tbl (ps ++ #[rawInt pos.line, rawInt pos.col, .ref c'])) := by
          rw [upd_ne (ne_of_none hP nC), upd_same]
        exact ⟨_, (upd_ne (ne_of_none e1 nF)).trans e1⟩
      · have e1 : upd (upd H P (.tbl (ps ++ #[rawInt pos.line, rawInt pos.col, .ref c']))) c' (CodeO c' (X.env.qual ++ name)) a = some (.tbl qs) := by
          rw [upd_ne (ne_of_none e nC), upd_ne hb]
          exact e
        exact ⟨_, (upd_ne (ne_of_none e1 nF)).trans e1⟩
    · exact (upd_ne (ne_of_none e nF)).trans e
    · exact (upd_ne (Nat.ne_of_lt hlt)).trans upd_same
  | some cv =>
    obtain ⟨c', e, hco⟩ := ha pos cv hc
    subst e
    rw [hn] at hco
    refine make_hit (mg := X.mg) (c := c) (P := P) (ps := ps) (closure_ok hfree) I.ok.glob (I.mod.glob.keeps I.bk) hcode (TB.code.keeps I.bk) hP' ht hc bP fun ctv doc h' tk hx hsz => ?_
    have I1 : Inv X pins σ H { s with heap := h', toks := tk } := I.kept hx
    have nF : H h'.objs.size = none := I1.hok.fresh (Nat.le_refl _)
    have I2 := inv_fnC (F := ⟨name, X.env.qual ++ name, params, body, scope, cloFrom X.env.cells scope.names [], c'⟩) (t' := tk) (doc := doc) (pm := (X.mg "__name__").getD .none) (ctv := ctv) I1 rfl
    refine h h'.objs.size c' _ _ I2 ⟨fun b o e n => ?_, fun b e => upd_none e, fun a qs e => ⟨qs, ?_⟩, hT.ext fun b o e => ?_, nF, upd_same, ?_⟩
    · exact (upd_ne (ne_of_none e nF)).trans e
    · exact (upd_ne (ne_of_none e nF)).trans e
    · exact (upd_ne (ne_of_none e nF)).trans e
    · exact (upd_ne (ne_of_none hco nF)).trans hco
end
section
variable {T : List NTab} {K : Pw} {W : Wd} {H H1 : Hp} {st : Sto} {f c' : Addr} {F : CF}
theorem Made.rel (m : Made T H H1 f c' F) (R : Rel T K W H st) : Rel T K W H1 st where
  sub := fun a u e => by
    rcases R.sub a u e with z | ⟨m0, od, z⟩ | ⟨ps, ps', q, z⟩
    · by_cases ht : ∃ ps, u = .tbl ps
      · obtain ⟨ps, rfl⟩ := ht
        obtain ⟨ps', z'⟩ := m.tb a ps z
        exact .inr (.inr ⟨ps, ps', rfl, z'⟩)
      · exact .inl (m.ext a u z fun ps e => ht ⟨ps, e⟩)
    · exact .inr (.inl ⟨m0, od, m.ext a _ z fun ps e => by cases e⟩)
    · obtain ⟨ps2, z'⟩ := m.tb a ps' z
      exact .inr (.inr ⟨ps, ps2, q, z'⟩)
  cel := fun l c e hc => by
    obtain ⟨n, o, e2, q⟩ := R.cel l c e hc
    exact ⟨n, o, m.ext _ _ e2 (fun ps z => by subst z; exact not_cel_tbl _ (q.isCel hc)), q⟩
  inj := R.inj
  tab := m.tab
theorem Made.extn (m : Made T H H1 f c' F) : Ext W H st W H1 st :=
  ⟨More.refl, fun _ _ => rfl, Nat.le_refl _, fun a u e _ n => m.ext a u e n, fun l h1 h2 => absurd h2 (Nat.not_lt.mpr h1), fun _ _ z => z, m.nn, fun _ z => .inl z⟩
end
/-- how the running def makes functions -/
structure MkX (Γ : Gc) (X : Cx) (P : Addr) (nm : Nat → Nat → Str) : Prop where
  code : ∃ c, TabB X.base X.mg c P ∧ X.env.code = .ref c
  mem : (P, nm) ∈ Γ.T
  un : ∀ p ∈ Γ.T, p.1 = P → p.2 = nm
  out : X.Ok → ∀ y c, X.env.cells.lookup y = some c → c ∉ X.fs
/-- what the text says of a function made here -/
structure MkF (Γ : Gc) (X : Cx) (nm : Nat → Nat → Str) (name : Str) (params : Arguments) (body : FuncBody) (scope : Scope) (pos : Pos) (k : Nat) (js : List Nat) (ci : CI) : Prop where
  is : Γ.ci k = some ci
  pa : ci.params = params
  bo : ci.body = body
  sc : ci.scope = scope
  nam : nm pos.line pos.col = X.env.qual ++ name
  free : ∀ y ∈ scope.names, y.2 = .free → X.env.scope.names.lookup y.1 = some .cell ∨ X.env.scope.names.lookup y.1 = some .free
  fr : ∀ y ∈ ci.fr, (y, NameKind.free) ∈ scope.names
  jat : js.map (fun j => X.N[j]?) = ci.fr.map some
section
variable {Γ : Gc} {X : Cx} {P : Addr} {nm : Nat → Nat → Str} {name : Str} {params : Arguments} {body : FuncBody} {scope : Scope} {pos : Pos} {k i : Nat} {js : List Nat} {ci : CI} {pins : List (Addr × PySem.Obj)} {σ : L2.St} {H H1 : Hp} {s : Shared} {W : Wd} {n : Nat} {ε : Env}
theorem MkF.has (m : MkF Γ X nm name params body scope pos k js ci) (ok : X.Ok) : ∀ y ∈ scope.names, y.2 = .free → ∃ c, X.env.cells.lookup y.1 = some c := fun y hy e => (m.free y hy e).elim (fun z => ok.has _ (.inl z)) fun z => ok.has _ (.inr z)
theorem MkF.rn (m : MkF Γ X nm name params body scope pos k js ci) (mk : MkX Γ X P nm) (ok : X.Ok) {f c' : Addr} (d : Made Γ.T H H1 f c' ⟨name, X.env.qual ++ name, params, body, scope, cloFrom X.env.cells scope.names [], c'⟩) : RN Γ X H1 (.ref f) k js :=
  ⟨f, _, ci, rfl, m.is, m.pa.symm, m.bo.symm, m.sc.symm, d.f1, d.c1, fun ok => Caps.made ok m.free m.fr m.jat, fun y c e => mk.out ok y c (clo_cm (m.has ok) e)⟩
theorem ds_ndef {sb : List Stmt} (mk : MkX Γ X P nm) (m : MkF Γ X nm name params (.stmts sb) scope pos k js ci) (hd0 : params.defaults = []) (hk0 : params.kw_defaults = []) (ha : annTrees params none X.env = []) (hN : X.N.Nodup) (hs : Slot' X name i) :
    DS Γ X (.FunctionDef name params sb [] none [] scope none name pos) (fun ε => M.pure (.nx (ε.set i (some (.nd k js))))) := fun Wx tk => by
  refine ⟨fun pins s σ H D I ⟨W, ε, st, rel, env, post⟩ => ?_⟩
  have hq : qualnameIn X.env name name = X.env.qual ++ name := by
    have hk : X.env.kindOf name = some .local ∨ X.env.kindOf name = some .cell := hs.loc
    unfold qualnameIn
    rcases hk with k | k <;> rw [k] <;> first | rfl | exact if_neg (by decide)
  refine PySem.W.nestDef_K hd0 hk0 ha ?_
  rw [hq]
  obtain ⟨c, TB, hc⟩ := mk.code
  refine fn_make I TB hc mk.mem m.nam mk.un rel.tab (m.has I.ok) fun f c' H1 s' I1 d => ?_
  have rel1 := d.rel rel
  have env1 := env.ext rel (d.extn (st := st) (W := W))
  exact store_ok I1 hN hs.at_ hs.loc (v := .ref f) rfl (fun s'' J => ⟨_, H1, J, post W H1 d.extn rel1 _ (env1.set (x := .nd k js) (m.rn mk I.ok d))⟩) hs.fn
/-- lambda .. -/
theorem de_clo {eb : Expr} (mk : MkX Γ X P nm) (m : MkF Γ X nm "<lambda>" params (.expr eb) scope pos k js ci) (hdef : defaultsOf params X.env = ([], [])) :
    DE Γ X (.Lambda params eb scope pos) (fun ε => (match capD ε js with
    | some ws => M.pure (.c k ws)
    | none => M.bad)) := fun Wx tk => by
  refine ⟨fun pins s σ H Q I ⟨W, ε, st, rel, env, post⟩ => ?_⟩
  refine PySem.W.kla_eval hdef ?_
  obtain ⟨c, TB, hc⟩ := mk.code
  refine fn_make I TB hc mk.mem m.nam mk.un rel.tab (m.has I.ok) fun f c' H1 s' I1 d => ?_
  have rel1 := d.rel rel
  have env1 := env.ext rel (d.extn (st := st) (W := W))
  cases ec : capD ε js with
  | none =>
    have post : Post Γ X (RVs Γ X σ) σ Wx W H st ((match capD ε js with
    | some ws => M.pure (Val.c k ws)
    | none => M.bad) st) Q := post
    rw [ec] at post
    exact post.elim
  | some ws =>
    have post : Post Γ X (RVs Γ X σ) σ Wx W H st ((match capD ε js with
    | some ws => M.pure (Val.c k ws)
    | none => M.bad) st) Q := post
    rw [ec] at post
    obtain ⟨f', F, ci', q1, q2, q3, q4, q5, q6, q7, q8, q9⟩ := m.rn mk I.ok d
    exact ⟨.ref f, H1, I1, rfl, post (.ref f) W H1 d.extn rel1 ⟨f', F, js.map (slotAt σ), ci', q1, q2, q3, q4, q5, q6, q7, pair_slots env1 (caps_pl ec), fun pins s σ' H' e J => by
      subst e
      exact cells_of J (q8 J.ok), caps_out I1 (q8 I.ok) q9⟩⟩
end
end Fx

set_option Elab.async false
set_option linter.all false
set_option maxRecDepth 100000
set_option maxHeartbeats 1000000
/-! Fx30: the promise of the defs, from one level to the next. -/
namespace Fx
open PySem PySem.Spec PyProof.Rows L2 NdefX LamX
/-! ### a call of a function that was made, its promise told of the very state -/
def CF.nf (F : CF) : NF := ⟨F.name, F.qual, F.params, [], F.scope, F.cl, F.c⟩
section
variable {CX : CXT} {P : Program} {w : World} {K : PySem.W.Frag} {mg : Str → Option Value} {base : Heap} {N ps fr : List Str} {F : CF} {f : Addr} {k : Nat} {A : Around} {outer : List PySem.Env} {s : Shared} {H : Hp} {us : List Value} {vs : List V} {ws : List (Option V)} {Q : VK} {E : XK}
theorem run_ofN (S : NScope N ps fr F.scope) (hb : ∀ doc pm ctv, bindArgs (F.fd doc pm ctv) ⟨us, []⟩ = pure (ps.zip us)) (hr : Room (k + 1) A) (e0 : Env0 P w K mg base A outer s H) (hf : H f = some (FnC f F)) (hc : H F.c = some (CodeO F.c F.qual)) (C : CellsAt F.cl fr ws s.heap H) (r : Vals vs us) (hl : vs.length = ps.length)
    (hbody : Room k (A.deeper (envF F.nf f s.heap.objs.size)) → match F.body with
      | .stmts sb => ∃ t, PSs (ncx CX P w K mg base N F.nf f A outer s H E) sb t ∧ t { nx := fun _ H' => Q .non H', rt := Q } (startF N vs ws) H
      | .expr eb => ∃ t, PE (ncx CX P w K mg base N F.nf f A outer s H E) eb t ∧ t (startF N vs ws) H Q) :
    codeAny (model P w) A (.call (.ref f) ⟨us, []⟩) (CR CX outer P w H s Q E) s := by
  have lim : s.heap.NoLimit := e0.mod.nolimit.keeps fun b o e => (e0.bs b o e).1
  obtain ⟨⟨od, sl, doc, pm, ctv, ho⟩, _, _⟩ := e0.hok f _ hf
  have fin : ∀ {σ' : L2.St} {H' : Hp} {v : V} {u : Value} {s' : Shared}, Inv (ncx CX P w K mg base N F.nf f A outer s H E) [] σ' H' s' → L2.RelV v u → Q v H' → CE outer P w H s Q u s' :=
    fun {σ' H' v u s'} J rv q => ⟨v, H', J.os, J.bare, J.base, J.hok, rv, q⟩
  have hb1 := hbody (hr.deeper _)
  have start : ∀ (h₁ : Heap), h₁.Ns s.heap.objs.size (fun y => (ps.zip us).reverse.lookup y) → (∀ b o, s.heap.get? b = some o → h₁.get? b = some o) → Inv (ncx CX P w K mg base N F.nf f A outer s H E) [] (startF N vs ws) H { s with heap := h₁, toks := s.toks + (ps.zip us).length } := fun h₁ hns kp => inv_startN (F := F.nf) S hr.hd e0 hl r C hns kp
  cases eb : F.body with
  | stmts sb =>
    rw [eb] at hb1
    obtain ⟨t, ht, hq⟩ := hb1
    have ho' : s.heap.get? f = some (⟨.type "function", od, .func ({ F with body := .stmts sb }.fd doc pm ctv), sl⟩ : PySem.Obj) := by rw [ho]; unfold CF.fd; rw [eb]
    have hb' : bindArgs ({ F with body := .stmts sb }.fd doc pm ctv) ⟨us, []⟩ = pure (ps.zip us) := by
      have := hb doc pm ctv
      unfold CF.fd at this ⊢
      rw [eb] at this
      exact this
    refine codeAny_call_function hr.depth ho' rfl S.co S.gen rfl (codeO_at e0.hok hc) ?_
    rw [hb']
    refine wpAny_pure (wpAny_newFunctionEnv S.nocell (fun ⟨n, _⟩ hy => S.par n (List.of_mem_zip hy).1) (fun h₁ hns hsb => ⟨lim.fresh _ hsb, ?_⟩) S.kind)
    show codeAny _ _ (.func sb (envF F.nf f s.heap.objs.size)) _ _
    refine codeAny_func ?_
    have kp : ∀ b o, s.heap.get? b = some o → h₁.get? b = some o := fun b o e => hsb.extBut b o (Nat.ne_of_lt (Heap.lt_size e)) (Heap.get?_push_of_some _ e)
    refine wpAny_mono (ht.run [] _ (startF N vs ws) H _ (start h₁ hns kp) hq) (fun fl s' hs => ?_) fun e s' hs => hs
    cases fl with
    | ret u =>
      obtain ⟨v, σ', H', J, rv, q⟩ := hs
      exact fin J rv q
    | next =>
      obtain ⟨σ', H', J, q⟩ := hs
      exact fin (v := V.non) (u := Value.none) J rfl q
    | brk =>
      obtain ⟨_, _, _, q⟩ := hs
      exact False.elim q
    | cont =>
      obtain ⟨_, _, _, q⟩ := hs
      exact False.elim q
  | expr ebd =>
    rw [eb] at hb1
    obtain ⟨t, ht, hq⟩ := hb1
    have ho' : s.heap.get? f = some (⟨.type "function", od, .func ({ F with body := .expr ebd }.fd doc pm ctv), sl⟩ : PySem.Obj) := by rw [ho]; unfold CF.fd; rw [eb]
    have hb' : bindArgs ({ F with body := .expr ebd }.fd doc pm ctv) ⟨us, []⟩ = pure (ps.zip us) := by
      have := hb doc pm ctv
      unfold CF.fd at this ⊢
      rw [eb] at this
      exact this
    refine PySem.W.kla_callFunE hr.depth ho' rfl S.co S.gen rfl (codeO_at e0.hok hc) ?_
    rw [hb']
    refine wpAny_pure (wpAny_newFunctionEnv S.nocell (fun ⟨n, _⟩ hy => S.par n (List.of_mem_zip hy).1) (fun h₁ hns hsb => ⟨lim.fresh _ hsb, ?_⟩) S.kind)
    show codeAny _ _ (.expr ebd (envF F.nf f s.heap.objs.size)) _ _
    have kp : ∀ b o, s.heap.get? b = some o → h₁.get? b = some o := fun b o e => hsb.extBut b o (Nat.ne_of_lt (Heap.lt_size e)) (Heap.get?_push_of_some _ e)
    refine PySem.W.kla_codeExpr (wpAny_mono (ht.run [] _ (startF N vs ws) H Q (start h₁ hns kp) hq) (fun v s' hq => ?_) fun e s' hq => hq)
    obtain ⟨w', H', J', rv, q⟩ := hq
    exact fin J' rv q
end
end Fx

set_option Elab.async false
set_option linter.all false
set_option maxRecDepth 100000
set_option maxHeartbeats 1000000
/-! Fx31: the promise of the defs, from one level to the next. -/
namespace Fx
open PySem PySem.Spec PyProof.Rows L2 NdefX LamX
/-- the context in which a text is read -/
structure Cxt (Γ : Gc) (k : Nat) (N : List Str) (sc : Scope) (fn : Bool) (q : Str) (mi : Option (Addr × (Nat → Nat → Str))) (X : Cx) : Prop where
  ok : Okx Γ k X
  ctr : Ctr Γ X.prog X.w X.K X.mg X.base k
  hN : X.N = N
  hsc : X.env.scope = sc
  hq : X.env.qual = q
  hfn : fn = true → ∀ x, X.fn x = true
  mkx : ∀ P nm, mi = some (P, nm) → MkX Γ X P nm
/-- the words of a def -/
structure FW where
  name : Str
  qual : Str
  params : Arguments
  body : List Stmt
  scope : Scope
  dV : Value
  kV : Value
  doc : Value
  pm : Value
  an : Option Addr
  cdv : Value
  ct : Value
  oc : Value
  od : Option Addr
  osl : Array (Option Value)
def FW.fd (w : FW) : FuncData := PySem.W.fnOf w.name w.qual w.params w.body w.scope w.dV w.kV w.doc w.pm w.an w.cdv w.ct
def qualIn (q : Str) (sc : Scope) : Str := (envOfC q sc 0 0 .none).qual
/-- a def's text keeps its promise -/
structure FnI (Γ : Gc) (K : PySem.W.Frag) (mg : Str → Option Value) (base : Heap) (k : Nat) (f : Str) (a : Addr) (fi : FI) (t : FW) (N : List Str) (fn : Fn) (mi : Option (Addr × (Nat → Nat → Str))) : Prop where
  lk : K.lookup a = some ⟨t.oc, t.od, .func t.fd, t.osl⟩
  fd : fi.fd = t.fd
  cd : PySem.W.codeIn K t.cdv t.qual = true
  sc : FnScope N fi.ps t.scope
  isfn : Γ.p.fns f = some fn
  sl : fn.slots = N.length
  pa : fn.pars = fi.ps.length
  mkx : ∀ P nm, mi = some (P, nm) → (∃ c, t.cdv = .ref c ∧ TabB base mg c P) ∧ (P, nm) ∈ Γ.T ∧ ∀ p ∈ Γ.T, p.1 = P → p.2 = nm
  body : ∀ X, Cxt Γ k N t.scope true (qualIn t.qual t.scope) mi X → DSs Γ X t.body (evSs (tbl Γ.p k) fn.body)
structure ClI (Γ : Gc) (k : Nat) (c : Nat) (ci : CI) (fn : Fn) : Prop where
  sc : NScope ci.N ci.ps ci.fr ci.scope
  isfn : Γ.p.cls c = some fn
  sl : fn.slots = ci.N.length
  pa : fn.pars = ci.ps.length + ci.fr.length
  body : match ci.body with
    | .stmts sb => ∀ q X, Cxt Γ k ci.N ci.scope false q none X → DSs Γ X sb (evSs (tbl Γ.p k) fn.body)
    | .expr e => ∃ ir, fn.body = Ss.cons (.ret ir) .nil ∧ ∀ q X, Cxt Γ k ci.N ci.scope false q none X → DE Γ X e (evE (tbl Γ.p k) ir)
section
variable {Γ : Gc} {X : Cx} {k : Nat} {σ : L2.St} {W : Wd} {H : Hp} {st : Sto} {Q : VK} {n : Nat} {s : Shared}
abbrev SlO (Γ : Gc) (X : Cx) (W : Wd) (H : Hp) (n : Nat) : Option V → Option Slv → Prop := fun o x => ∀ y, x = some y → ∃ v, o = some v ∧ SlvR Γ X W H n v y
theorem pair_app {α β : Type} {r : α → β → Prop} : ∀ {a : List α} {b : List β} {c : List α} {d : List β}, Paired r a b → Paired r c d → Paired r (a ++ c) (b ++ d)
  | _, _, _, _, .nil, h => h
  | _, _, _, _, .cons h t, h2 => .cons h (pair_app t h2)
theorem env_of {σ : L2.St} {ε : Env} (h : Paired (SlO Γ X W H n) σ ε) : EnvR Γ X W H n σ ε :=
  ⟨h.length, fun i x e => by
    obtain ⟨o, h1, h2⟩ := pair_r h e
    obtain ⟨v, rfl, h3⟩ := h2 x rfl
    exact ⟨v, h1, h3⟩⟩
theorem pair_none : ∀ {m : Nat}, Paired (SlO Γ X W H n) (List.replicate m none) (List.replicate m none)
  | 0 => .nil
  | m + 1 => .cons (fun _ z => by cases z) pair_none
theorem pair_vals : ∀ {vs : List V} {xs : List Val}, Paired (fun v x => RV Γ X (fun _ => True) W H n v x) vs xs → Paired (SlO Γ X W H n) (vs.map some) (xs.map fun v => some (.v v))
  | _, _, .nil => .nil
  | _, _, .cons h t => .cons (fun y z => by cases z; exact ⟨_, rfl, h⟩) (pair_vals t)
theorem pair_caps : ∀ {vs : List (Option V)} {xs : List PyData}, Paired (fun (wv : Option V) (w : PyData) => ∃ v', wv = some v' ∧ Rp (kp X) W.Hs v' w) vs xs → Paired (SlO Γ X W H n) vs ((xs.map Val.d).map fun v => some (.v v))
  | _, _, .nil => .nil
  | _, _, .cons h t => .cons (fun y z => by cases z; obtain ⟨v, e, r⟩ := h; exact ⟨v, e, r⟩) (pair_caps t)
theorem env_start {N : List Str} {vs : List V} {xs : List Val} (h : Paired (fun v x => RV Γ X (fun _ => True) W H n v x) vs xs) : EnvR Γ X W H n (L2.start N vs) (startE N.length xs) := by
  unfold L2.start startE
  rw [show vs.length = xs.length from h.length]
  exact env_of (pair_app (pair_vals h) pair_none)
theorem env_startF {N : List Str} {vs : List V} {xs : List Val} {wvs : List (Option V)} {ws : List PyData} (h : Paired (fun v x => RV Γ X (fun _ => True) W H n v x) vs xs) (h2 : Paired (fun (wv : Option V) (w : PyData) => ∃ v', wv = some v' ∧ Rp (kp X) W.Hs v' w) wvs ws) :
    EnvR Γ X W H n (startF N vs wvs) (startE N.length (xs ++ ws.map Val.d)) := by
  unfold startF startE
  rw [List.map_append, List.append_assoc]
  have e : N.length - (xs ++ ws.map Val.d).length = N.length - vs.length - wvs.length := by
    rw [List.length_append, List.length_map, ← h.length, ← h2.length]
    omega
  rw [e]
  exact env_of (pair_app (pair_vals h) (pair_app (pair_caps h2) pair_none))
/-- an argument, in the context of the callee -/
theorem rv_arg {v : V} {y : Val} {fs : List Addr} (r : AR Γ (kp X) W H s fs n v y) (hs : X.s_0 = s) (hH : X.H_0 = H) (hf : X.fs = fs) (hl : s.heap.objs.size ≤ X.env.locals) (hx : X.ex = []) : RV Γ X (fun _ => True) W H n v y := by
  cases y with
  | d x => exact r
  | o l => exact r
  | g f => exact r
  | c c ws =>
    obtain ⟨f, F, wvs, ci, h1, h2, h3, h4, h5, h6, h7, h8, h9, h10⟩ := r
    refine ⟨f, F, wvs, ci, h1, h2, h3, h4, h5, h6, h7, h8, fun pins s2 σ' H' _ I => ?_, fun y c e => ⟨fun z => ?_, by rw [hf]; exact h10 y c e, by rw [hx]; exact fun z => nomatch z⟩⟩
    · exact CellsAt.later (X := X) (by rw [hs, hH]; exact h9) (fun y c e => by rw [hf]; exact h10 y c e) (fun y c e => by rw [hx]; exact fun z => nomatch z) I
    · obtain ⟨_, v, o, ho, _⟩ := h9.all y c e
      have := Heap.lt_size ho
      rw [z] at this
      exact absurd (Nat.lt_of_lt_of_le this hl) (Nat.lt_irrefl _)
/-- the end of a def's body -/
theorem run_end {K : Pw} {mg : Str → Option Value} {E : XK} {m : M Fl} (hk : kp X = K) (hm : X.mg = mg) (p : PostC Γ K mg W H st (M.bind m (fun w => (match w with
    | .rt v => noC v
    | .nx _ => M.pure (.d .none)
    | _ => M.bad)) st) Q E) : PostS Γ X (fun cls d _ H' => E cls d H') W H st (m st) { nx := fun _ H' => Q .non H', rt := Q } := by
  subst hk
  subst hm
  unfold M.bind at p
  cases e : m st with
  | bad => rw [e] at p; exact p.elim
  | err ex st1 => rw [e] at p; exact fun σ cls d W' H' x r q => p cls d W' H' x r q
  | ok fl st1 =>
    rw [e] at p
    cases fl with
    | nx ε => exact fun W' H' x r σ _ => p .non W' H' x r (.pl .non)
    | bk ε => exact p.elim
    | ct ε => exact p.elim
    | rt v =>
      have p : PostC Γ (kp X) X.mg W H st (noC v st1) Q E := p
      unfold noC at p
      cases hc : isC v with
      | true => rw [hc] at p; exact p.elim
      | false =>
        rw [hc] at p
        refine fun W' H' x r u q => p u W' H' x r ?_
        cases v with
        | d x => exact q
        | o l => exact q
        | g f => exact q
        | c c ws => cases hc
theorem run_endE {K : Pw} {mg : Str → Option Value} {E : XK} {Φ : Tbl} {ir : Fx.E} {ε : Env} (hk : kp X = K) (hm : X.mg = mg) (p : PostC Γ K mg W H st (M.bind (evSs Φ (.cons (.ret ir) .nil) ε) (fun w => (match w with
    | .rt v => noC v
    | .nx _ => M.pure (.d .none)
    | _ => M.bad)) st) Q E) : Post Γ X (RVs Γ X σ) σ (fun cls d _ H' => E cls d H') W H st (evE Φ ir ε st) Q := by
  subst hk
  subst hm
  have e0 : evSs Φ (.cons (.ret ir) .nil) ε = M.bind (M.bind (evE Φ ir ε) fun v => M.bind (noC v) fun v => M.pure (Fl.rt v)) fun w => (match w with
    | Fl.nx ε' => evSs Φ .nil ε'
    | w => M.pure w) := by
    rw [evSs, evS]
    try congr 1
  rw [e0, M.bind_assoc, M.bind_assoc] at p
  unfold M.bind at p
  cases e : evE Φ ir ε st with
  | bad => rw [e] at p; exact p.elim
  | err ex st1 => rw [e] at p; exact fun cls d W' H' x r q => p cls d W' H' x r q
  | ok v st1 =>
    rw [e] at p
    cases v with
    | c c ws => exact p.elim
    | d x => exact fun b W' H' x r q => p b W' H' x r q
    | o l => exact fun b W' H' x r q => p b W' H' x r q
    | g f => exact fun b W' H' x r q => p b W' H' x r q
end
/-- THE STEP -/
theorem ctr_step {Γ : Gc} {P : Program} {w : World} {K : PySem.W.Frag} {mg : Str → Option Value} {base : Heap} {k : Nat} (C : Ctr Γ P w K mg base k) (hG : ∀ X : Cx, X.prog = P → X.w = w → X.K = K → X.mg = mg → GX Γ X)
    (hfn : ∀ f a fi, Γ.ad f = some a → Γ.fi f = some fi → ∃ t N fn mi, FnI Γ K mg base k f a fi t N fn mi) (hcl : ∀ c ci, Γ.ci c = some ci → ∃ fn, ClI Γ k c ci fn) : Ctr Γ P w K mg base (k + 1) where
  fi := C.fi
  cp := C.cp
  fn := fun f a fi ha hf A outer s H args us vs xs W st Q E hr hgd e0 hb r rel pr post => by
    obtain ⟨t, N, fn, mi, I⟩ := hfn f a fi ha hf
    have post : PostC Γ ⟨P, w⟩ mg W H st ((match Γ.p.fns f with
      | some fn => runF (tbl Γ.p k) fn xs
      | none => M.bad) st) Q E := post
    rw [I.isfn] at post
    have post : PostC Γ ⟨P, w⟩ mg W H st (runF (tbl Γ.p k) fn xs st) Q E := post
    unfold runF at post
    by_cases hl : xs.length = fn.pars
    · rw [if_pos hl] at post
      have hlv : vs.length = fi.ps.length := by rw [pr.length, hl, I.pa]
      rw [I.fd] at hb
      refine run_ofS (CX := L2.CX P w) I.lk I.cd I.sc hr e0 hb r hlv fun hr' => ?_
      have X0 : Cxt Γ k N t.scope true (qualIn t.qual t.scope) mi (cxOf (L2.CX P w) P w K mg base N t.qual t.scope a t.cdv A outer s H E) := by
        refine ⟨⟨hG _ rfl rfl rfl rfl, rfl, passes_of rfl, hr', hgd, I.sc.nd⟩, C, rfl, rfl, rfl, fun _ _ => rfl, fun P' nm e => ?_⟩
        obtain ⟨⟨c, h1, h2⟩, h3, h4⟩ := I.mkx P' nm e
        refine ⟨⟨c, h2, h1⟩, h3, h4, fun ok y c e z => ?_⟩
        have h5 : s.heap.objs.size ≤ c := ok.cab y c rfl e
        obtain ⟨_, o, ho, _⟩ := e0.funs.mem (show c ∈ frs outer from z)
        exact absurd (Nat.lt_of_lt_of_le (Heap.lt_size ho) h5) (Nat.lt_irrefl _)
      refine ⟨_, I.body _ X0 (fun cls d _ H' => E cls d H') (takes_of rfl rfl rfl rfl), W, startE fn.slots xs, st, rel, ?_, run_end rfl rfl post⟩
      rw [I.sl]
      exact env_start (Paired.mapP pr fun _ _ q => rv_arg q rfl rfl rfl (Nat.le_refl _) rfl)
    · rw [if_neg hl] at post
      exact post.elim
  cl := fun c ci f F hci hp hbo hsc A outer s H us vs wvs xs ws W st Q E hr hgd e0 hf hc Cc hout pw r hlu rel pr post => by
    obtain ⟨fn, I⟩ := hcl c ci hci
    obtain ⟨pl, nd, _⟩ := C.cp c ci hci
    have post : PostC Γ ⟨P, w⟩ mg W H st ((match Γ.p.cls c with
      | some fn => runF (tbl Γ.p k) fn (xs ++ ws.map Val.d)
      | none => M.bad) st) Q E := post
    rw [I.isfn] at post
    have post : PostC Γ ⟨P, w⟩ mg W H st (runF (tbl Γ.p k) fn (xs ++ ws.map Val.d) st) Q E := post
    unfold runF at post
    by_cases hl : (xs ++ ws.map Val.d).length = fn.pars
    · rw [if_pos hl] at post
      have S : NScope ci.N ci.ps ci.fr F.scope := by rw [hsc]; exact I.sc
      refine run_ofN (CX := L2.CX P w) S (fun doc pm ctv => bind_pos (by show Plain F.params _; rw [hp]; exact pl) rfl nd hlu) hr e0 hf hc Cc r (by rw [r.length, hlu]) fun hr' => ?_
      have X0 : Cxt Γ k ci.N ci.scope false (envF F.nf f s.heap.objs.size).qual none (ncx (L2.CX P w) P w K mg base ci.N F.nf f A outer s H E) :=
        ⟨⟨hG _ rfl rfl rfl rfl, rfl, passes_of rfl, hr', hgd, I.sc.nd⟩, C, rfl, hsc, rfl, (fun z => Bool.noConfusion z), fun P' nm e => nomatch e⟩
      have env : EnvR Γ (ncx (L2.CX P w) P w K mg base ci.N F.nf f A outer s H E) W H st.length (startF ci.N vs wvs) (startE fn.slots (xs ++ ws.map Val.d)) := by
        rw [I.sl]
        exact env_startF (Paired.mapP pr fun _ _ q => rv_arg q rfl rfl rfl (Nat.le_refl _) rfl) pw
      have tk : Takes (ncx (L2.CX P w) P w K mg base ci.N F.nf f A outer s H E) (fun cls d _ H' => E cls d H') := takes_of rfl rfl rfl rfl
      have hb := I.body
      rw [hbo]
      cases eb : ci.body with
      | stmts sb =>
        rw [eb] at hb
        exact ⟨_, hb _ _ X0 (fun cls d _ H' => E cls d H') tk, W, _, st, rel, env, run_end rfl rfl post⟩
      | expr e =>
        rw [eb] at hb
        obtain ⟨ir, h1, h2⟩ := hb
        rw [h1] at post
        exact ⟨_, h2 _ _ X0 (fun cls d _ H' => E cls d H') tk, W, _, st, rel, env, run_endE rfl rfl post⟩
    · rw [if_neg hl] at post
      exact post.elim
/-- level 0: no call is promised anything -/
theorem ctr_zero {Γ : Gc} {P : Program} {w : World} {K : PySem.W.Frag} {mg : Str → Option Value} {base : Heap} (hfi : ∀ f fi, Γ.fi f = some fi → Plain fi.fd.params fi.ps ∧ fi.fd.defaults = .none ∧ fi.ps.Nodup ∧ ∀ fn, Γ.p.fns f = some fn → fn.pars = fi.ps.length)
    (hcp : ∀ c ci, Γ.ci c = some ci → Plain ci.params ci.ps ∧ ci.ps.Nodup ∧ ∀ fn, Γ.p.cls c = some fn → fn.pars = ci.ps.length + ci.fr.length) : Ctr Γ P w K mg base 0 where
  fi := hfi
  cp := hcp
  fn := fun f a fi ha hf A outer s H args us vs xs W st Q E hr hgd e0 hb r rel pr post => post.elim
  cl := fun c ci f F hci hp hbo hsc A outer s H us vs wvs xs ws W st Q E hr hgd e0 hf hc Cc hout pw r hlu rel pr post => post.elim
end Fx

set_option Elab.async false
set_option linter.all false
set_option maxRecDepth 100000
set_option maxHeartbeats 1000000
/-! Fx32: locking a thing of the store; statements that are never reached. -/
namespace Fx
open PySem PySem.Spec PyProof.Rows L2 NdefX LamX
section
variable {Γ : Gc} {X : Cx} {a : Expr} {Fa : Env → M Val}
theorem de_frz (ha : DE Γ X a Fa) : DE Γ X a (fun ε => M.bind (Fa ε) fun v => freeze v) := fun Wx tk =>
  (ha Wx tk).imp fun σ H Q ⟨W, ε, st, rel, env, post⟩ => tG_of rel env post fun v x W1 H1 st1 e1 x1 rel1 env1 r1 p1 => by
    cases x with
    | d d => exact p1 v W1 H1 Ext.refl rel1 r1
    | c c ws => exact p1.elim
    | g f => exact p1.elim
    | o l =>
      obtain ⟨hl, rfl⟩ := r1
      unfold freeze at p1
      cases ec : st1[l]? with
      | none => simp only [ec] at p1; exact p1.elim
      | some c =>
        simp only [ec] at p1
        cases c with
        | dead => exact p1.elim
        | lst xs =>
          obtain ⟨n, o, ho, q⟩ := rel1.cel l _ ec (fun z => by cases z)
          obtain ⟨vs, rfl, hz, pl⟩ := q
          refine p1 _ (W1.add (W1.ρ l) (.lst vs)) H1 (Ext.freeze rel1 ec fun z => by cases z) (rel1.freeze ec (fun z => by cases z) ho) (Rp.pl (.lst (.inl ?_) hz (pl.more (more_upd n))))
          exact upd_same
        | dct tk ps =>
          obtain ⟨n, o, ho, q⟩ := rel1.cel l _ ec (fun z => by cases z)
          cases tk with
          | false =>
            obtain ⟨kvs, rfl, hk⟩ := q
            refine p1 _ (W1.add (W1.ρ l) (.dK kvs)) H1 (Ext.freeze rel1 ec fun z => by cases z) (rel1.freeze ec (fun z => by cases z) ho) (Rp.dk (kvs := kvs) ?_ (hk.more (more_upd n)))
            exact upd_same
          | true =>
            obtain ⟨kvs, rfl, hk⟩ := q
            refine p1 _ (W1.add (W1.ρ l) (TD (kp X) (W1.ρ l) kvs)) H1 (Ext.freeze rel1 ec fun z => by cases z) (rel1.freeze ec (fun z => by cases z) ho) (Rp.dt (kvs := kvs) ?_ (hk.more (more_upd n)))
            exact upd_same
theorem ds_bad {s : Stmt} : DS Γ X s (fun _ => M.bad) := fun Wx tk => ⟨fun pins s σ H D I ⟨W, ε, st, rel, env, post⟩ => post.elim⟩
theorem de_bad : DE Γ X a (fun _ => M.bad) := fun Wx tk => ⟨fun pins s σ H D I ⟨W, ε, st, rel, env, post⟩ => post.elim⟩
end
end Fx

set_option Elab.async false
set_option linter.all false
set_option maxRecDepth 100000
/-! Fx33: sorted(set(xs)) of ints; the greatest of a dict's values. -/
namespace L2
open PySem PySem.Spec PyProof.Rows
section
variable {P : Program} {w : World} {A : Around} {E : Value → Shared → Prop} {s : Shared}
set_option maxHeartbeats 3200000 in
theorem set_listR {l : Addr} {items : Array Value} (ns : List Int) {Q : Value → Shared → Prop} (hh : A.handled = none) (hl : s.heap.IsList l items) (hit : IntsAre items.toList ns) (hb : ns.length + 1 < scanBound)
    (h : ∀ (h' : Heap) (tk c : Nat), SetR w h' s.heap.objs.size (fun j => decide (j ∈ ns)) c → c ≤ ns.length → (∀ b o, s.heap.get? b = some o → h'.get? b = some o) → Q (.ref s.heap.objs.size) { s with heap := h', toks := tk }) :
    wpAny (model P w) A (call (.type "set") [.ref l]) Q E s := by
  have hisz : items.size = ns.length := by
    have q := IntsAre.length hit
    rw [Array.length_toList] at q
    exact q
  obtain ⟨c, tl, hmro⟩ := F.called_set.mro
  have hmade := F.called_set.made
  have hsub := F.called_set.sub
  refine wpAny_call (codeAny_of_tree ?_)
  show wpAny _ _ (callAny (.type "set") _) _ _ _
  refine wpAny_pure ⟨Code.quiet_builtin _ (by decide +kernel), codeAny_builtin F.entry_type_call ?_⟩
  rw [Around.under_plain (weight_type_call_type "set" [.ref l] []) rfl]
  have h1 := F.called_set.notType
  have h2 := F.called_set.canCreate
  have hct := F.typeCall_set_1 (.ref l)
  repeat (any_goals (first | assumption | wp_step))

  refine codeAny_mono (code_set_led1 (.ref l) (E := E) (Q₁ := fun obj s₁ => obj = .ref s.heap.objs.size ∧ s₁ = { s with heap := s.heap.push { cls := .type "set", dict := none, data := .set #[] 0 (.fresh 0 0 (!w.params.followText "set-order")) } }) ⟨rfl, rfl⟩) fun r s₁ hr => ?_
  cases r with
  | error e => exact hr
  | ok fl =>
    cases fl with
    | ret obj =>
      obtain ⟨rfl, rfl⟩ := hr
      have hS : (s.heap.push { cls := .type "set", dict := none, data := .set #[] 0 (.fresh 0 0 (!w.params.followText "set-order")) }).get? s.heap.objs.size = some { cls := .type "set", dict := none, data := .set #[] 0 (.fresh 0 0 (!w.params.followText "set-order")) } := Heap.get?_push_size _ rfl
      have hT : Shared.TypeIs { s with heap := s.heap.push { cls := .type "set", dict := none, data := .set #[] 0 (.fresh 0 0 (!w.params.followText "set-order")) } } (.ref s.heap.objs.size) "set" := ⟨_, hS, rfl⟩
      have hli := F.called_set.init.lookup
      have hbi := F.called_set.init.bind (.ref s.heap.objs.size)
      repeat (any_goals (first | assumption | wp_step))

      refine codeAny_mono (codeAny_call_builtin (R := wants (fun r s₂ => r = .none ∧ ∃ h' tk c, s₂ = { s with heap := h', toks := tk } ∧ SetR w h' s.heap.objs.size (fun j => decide (j ∈ ns)) c ∧ c ≤ ns.length ∧
          (∀ b o, s.heap.get? b = some o → h'.get? b = some o)) E) F.called_set.init.plain F.entry_set_init (check_set_init_1 hT ?_)) fun r₂ s₂ hr₂ => ?_
      · obtain ⟨ol, hol, hcl, nl, hdl⟩ := hl
        obtain ⟨ocls, odict, odata, oslots⟩ := ol
        simp only at hcl hdl
        subst hcl; subst hdl
        have hol' : (s.heap.push { cls := .type "set", dict := none, data := .set #[] 0 (.fresh 0 0 (!w.params.followText "set-order")) }).get? l = some { cls := .type "list", dict := odict, data := .seq items nl, slots := oslots } := Heap.get?_push_of_some _ hol
        have hsls := F.sub_list_set
        have hslf := F.sub_list_frozenset
        have hne : (Value.type "list" == Value.type "dict") = false := by decide
        have hl1 : (s.heap.push { cls := .type "set", dict := none, data := .set #[] 0 (.fresh 0 0 (!w.params.followText "set-order")) }).IsList l items := ⟨_, hol', rfl, nl, rfl⟩
        unfold Builtin.«set.__init__» noKeywords Builtin.Frozenset.updateFrom
        generalize hPI : pyIter = PI
        wp_walk
        subst hPI

        refine wpAny_pyIter_list hl1 ?_
        refine wpAny_bind (wpAny_runValue ?_)
        have hlS : l < s.heap.objs.size := Heap.lt_size hol
        have hh3 : A.in1.in1.in1.handled = none := by simp [hh]
        have hz1 : (s.heap.push { cls := .type "set", dict := none, data := .set #[] 0 (.fresh 0 0 (!w.params.followText "set-order")) }).objs.size = s.heap.objs.size + 1 := Heap.size_push ..
        have hneI : l ≠ (s.heap.push { cls := .type "set", dict := none, data := .set #[] 0 (.fresh 0 0 (!w.params.followText "set-order")) }).objs.size := by
          rw [Heap.size_push]; exact Nat.ne_of_lt (Nat.lt_succ_of_lt hlS)
        have hSf : s.heap.objs.size ∉ [(s.heap.push { cls := .type "set", dict := none, data := .set #[] 0 (.fresh 0 0 (!w.params.followText "set-order")) }).objs.size, l] := by
          rw [Heap.size_push]; simp only [List.mem_cons, List.mem_singleton, List.not_mem_nil, or_false, not_or]
          exact ⟨Nat.ne_of_lt (Nat.lt_succ_self _), Nat.ne_of_gt hlS⟩
        have hval : ∀ (i : Nat) (v : Value), items[i]? = some v → ∃ k t, ns[i]? = some k ∧ v = .int k t := fun i v hv => by
          have hi : i < ns.length := by rw [← hisz]; exact (Array.getElem?_eq_some_iff.mp hv).1
          obtain ⟨t, e⟩ := PyProof.Rows.IntsAre.int_at hit i v (by rw [Array.getElem?_toList]; exact hv)
          refine ⟨ns[i], t, List.getElem?_eq_getElem hi, ?_⟩
          rw [e, List.getD_eq_getElem?_getD, List.getElem?_eq_getElem hi] <;> rfl
        refine set_update_ints ((Walks.list hh3 _ l hneI items).toS) s.heap.objs.size
          hSf ns hisz hb hval (items.size - 0) 0 _ (by omega) (Nat.zero_le _)
          ⟨⟨_, Heap.get?_push_size _ rfl, rfl, rfl⟩, (hl1.push _)⟩ ?hS0 ?hR
        case hS0 =>
          have hget : ((s.heap.push { cls := .type "set", dict := none, data := .set #[] 0 (.fresh 0 0 (!w.params.followText "set-order")) }).push { cls := .type "list_iterator", data := .fields #[.ref l, .int 0 0] }).get? s.heap.objs.size
              = some { cls := .type "set", dict := none, data := .set #[] 0 (.fresh 0 0 (!w.params.followText "set-order")) } := Heap.get?_push_of_some _ hS
          exact ⟨0, Nat.le_refl 0, setR_new_at hget⟩
        case hR =>
          intro s' c' hm hc' hS'
          obtain ⟨h', g2, d', tk', os'⟩ := s'
          have eg : g2 = s.gens := hm.gens
          have ed : d' = s.drawn := hm.drawn
          have eo : os' = s.os := hm.os
          subst eg; subst ed; subst eo
          show wpAny _ _ _ _ _ _
          refine wpAny_pure ?_
          show wpAny _ _ (ret Value.none) _ _ _
          rw [hisz] at hc'
          refine wpAny_pure ⟨rfl, h', tk', c', rfl, hS', hc', fun b o e => ?_⟩
          have hb0 : b < s.heap.objs.size := Heap.lt_size e
          have hb1 : b ≠ s.heap.objs.size := Nat.ne_of_lt hb0
          have hb2 : b ≠ (s.heap.push { cls := .type "set", dict := none, data := .set #[] 0 (.fresh 0 0 (!w.params.followText "set-order")) }).objs.size := by
            rw [Heap.size_push]; exact Nat.ne_of_lt (Nat.lt_succ_of_lt hb0)
          exact hm.heap b o (by simp only [List.mem_cons, List.mem_singleton, List.not_mem_nil, or_false, not_or]; exact ⟨hb1, hb2⟩) (Heap.get?_push_of_some _ (Heap.get?_push_of_some _ e))

      · cases r₂ with
        | error e => exact hr₂
        | ok fl₂ =>
          cases fl₂ with
          | ret r =>
            obtain ⟨rfl, h', tk, c', rfl, hS', hc', hk'⟩ := hr₂
            repeat (any_goals (first | assumption | wp_step))
            exact h _ _ _ hS' hc' hk'
          | _ => exact hr₂.elim
    | _ => exact hr.elim
end
end L2
set_option maxHeartbeats 1000000
namespace Fx
open PySem PySem.Spec PyProof.Rows L2 NdefX LamX
/-! ### the members in order -/
theorem insI_mem {x y : Int} : ∀ {l : List Int}, y ∈ insI x l ↔ y = x ∨ y ∈ l
  | [] => by simp [insI]
  | z :: l => by
    unfold insI
    split
    · simp
    · split
      · rename_i h1 h2
        subst h2
        simp
      · rw [List.mem_cons, insI_mem, List.mem_cons]
        constructor
        · rintro (h | h | h)
          · exact .inr (.inl h)
          · exact .inl h
          · exact .inr (.inr h)
        · rintro (h | h | h)
          · exact .inr (.inl h)
          · exact .inl h
          · exact .inr (.inr h)
theorem insI_sorted {x : Int} : ∀ {l : List Int}, l.Pairwise (· < ·) → (insI x l).Pairwise (· < ·)
  | [], _ => by simp [insI]
  | z :: l, h => by
    obtain ⟨h1, h2⟩ := List.pairwise_cons.mp h
    unfold insI
    split
    · rename_i h0
      exact List.pairwise_cons.mpr ⟨fun y hy => by
        rcases List.mem_cons.mp hy with rfl | hy
        · exact h0
        · exact Int.lt_trans h0 (h1 y hy), h⟩
    · split
      · exact h
      · rename_i h3 h4
        exact List.pairwise_cons.mpr ⟨fun y hy => by
          rcases insI_mem.mp hy with rfl | hy
          · omega
          · exact h1 y hy, insI_sorted h2⟩
theorem setI_mem {y : Int} : ∀ {ns : List Int}, y ∈ setI ns ↔ y ∈ ns
  | [] => by simp [setI]
  | n :: ns => by
    show y ∈ insI n (setI ns) ↔ _
    rw [insI_mem, setI_mem, List.mem_cons]
theorem setI_sorted : ∀ {ns : List Int}, (setI ns).Pairwise (· < ·)
  | [] => by simp [setI]
  | n :: ns => insI_sorted (setI_sorted (ns := ns))
theorem sorted_eq : ∀ {a b : List Int}, a.Pairwise (· < ·) → b.Pairwise (· < ·) → (∀ y, y ∈ a ↔ y ∈ b) → a = b
  | [], [], _, _, _ => rfl
  | [], y :: b, _, _, h => absurd ((h y).mpr List.mem_cons_self) (by simp)
  | x :: a, [], _, _, h => absurd ((h x).mp List.mem_cons_self) (by simp)
  | x :: a, y :: b, ha, hb, h => by
    obtain ⟨a1, a2⟩ := List.pairwise_cons.mp ha
    obtain ⟨b1, b2⟩ := List.pairwise_cons.mp hb
    have e : x = y := by
      rcases List.mem_cons.mp ((h x).mp List.mem_cons_self) with e | h1
      · exact e
      · rcases List.mem_cons.mp ((h y).mpr List.mem_cons_self) with e | h2
        · exact e.symm
        · have := b1 x h1
          have := a1 y h2
          omega
    subst e
    rw [sorted_eq a2 b2 fun z => ⟨fun hz => ?_, fun hz => ?_⟩]
    · rcases List.mem_cons.mp ((h z).mp (List.mem_cons_of_mem _ hz)) with e | h1
      · have := a1 z hz
        omega
      · exact h1
    · rcases List.mem_cons.mp ((h z).mpr (List.mem_cons_of_mem _ hz)) with e | h1
      · have := b1 z hz
        omega
      · exact h1
section
variable {X : Cx}
/-- set(xs), xs a list or tuple of ints -/
def rSetI (X : Cx) : List V → Hp → VK → Prop := fun vs H Q => ∃ (a : Addr) (ns : List Int), vs = [V.ref a] ∧ (SqL X.K H a (ns.map V.int) ∨ SqT X.K H a (ns.map V.int)) ∧ ns.length < 64 ∧
  ∀ (p : Addr) (c : Nat), H p = none → c ≤ ns.length → Q (.ref p) (upd H p (SetO X.w p (fun j => decide (j ∈ ns)) c))
theorem cr_setI (hc : X.calm = true) : CallR X (.type "set") (rSetI X) := by
  intro pins s σ H xs us Q I r h
  obtain ⟨a, ns, rfl, hs, hl, q⟩ := h
  rw [Vals.ref1 r]
  have fin : ∀ (h' : Heap) (tk c : Nat), SetR X.w h' s.heap.objs.size (fun j => decide (j ∈ ns)) c → c ≤ ns.length → (∀ b o, s.heap.get? b = some o → h'.get? b = some o) → EP X pins σ Q (.ref s.heap.objs.size) { s with heap := h', toks := tk } := fun h' tk c R hcn k =>
    ⟨.ref _, upd H s.heap.objs.size (SetO X.w s.heap.objs.size (fun j => decide (j ∈ ns)) c), I.laid (t' := tk) k (Nat.le_refl _) (setO_new R), rfl, q _ c (I.hok.fresh (Nat.le_refl _)) hcn⟩
  rcases hs with hs | hs
  · obtain ⟨its, rv, pl, hz⟩ := I.list hs
    exact set_listR ns (I.ok.hd hc) pl.isList (by simpa using rv.ints) (by unfold scanBound; omega) fin
  · obtain ⟨its, rv, pl, hz⟩ := I.tuple hs
    exact call_set_tupI ns (I.ok.hd hc) pl (by simpa using rv.ints) (by unfold scanBound; omega) fin
theorem pla_ints {K : Pw} {H : Hp} : ∀ (ns : List Int), PlA K H (ns.map V.int) (ns.map PyData.int)
  | [] => .nil
  | n :: ns => .cons (.int n) (pla_ints ns)
variable {Γ : Gc} {k : Nat} {a : Expr} {Fa : Env → M Val} {p p2 pos q : Pos}
theorem de_sset {ob : Bool} (hc : X.calm = true) (h1 : Blt X "sorted" (.builtin "sorted")) (h2 : Blt X "set" (.type "set")) (ha : DE Γ X a Fa) (hu : unstar a = true) :
    DE Γ X (.Call (.Name "sorted" p) [.Call (.Name "set" p2) [a] [] q] [] pos) (fun ε => M.bind (Fa ε) fun v => biV .sortedSet ob [v]) := fun Wx tk => by
  have pset := pe_callTy (pos := q) (p := p2) (cr_setI hc) h2.gl h2.no h2.is (pa_cons (ha Wx tk) pa_nil (star_cons hu)) h2.nm h2.db (star_cons hu) rfl
  have psort := pe_callB (pos := pos) (p := p) (cr_sortedSet hc) h1.gl h1.no h1.is (pa_cons pset pa_nil rfl) h1.nm h1.db rfl rfl
  refine psort.imp fun σ H Q ⟨W, ε, st, rel, env, post⟩ => ?_
  show tE Γ X Fa Wx σ H fun v0 H0 => rSetI X [v0] H0 fun v H1 => rSortedSet X.w [v] H1 Q
  refine tG_of rel env post fun v x W1 H1 st1 e1 x1 rel1 env1 r1 p1 => ?_
  obtain ⟨d, e2, p2⟩ := post_vw p1
  have fin : ∀ (l : Addr) (vs : List V) (xs : List PyData), v = .ref l → (SqL X.K H1 l vs ∨ SqT X.K H1 l vs) → PlA (kp X) W1.Hs vs xs → Post Γ X (RVs Γ X σ) σ Wx W1 H1 st1 ((match intsOf xs with
      | some ns => if ns.length < 64 then mkL ob ((setI ns).map .int) else M.bad
      | none => M.bad) st1) Q → rSetI X [v] H1 fun v H1 => rSortedSet X.w [v] H1 Q := by
    rintro l vs xs rfl hs pl p3
    cases e : intsOf xs with
    | none => rw [e] at p3; exact p3.elim
    | some ns =>
      rw [e] at p3
      have p3 : Post Γ X (RVs Γ X σ) σ Wx W1 H1 st1 ((if ns.length < 64 then mkL ob ((setI ns).map .int) else M.bad) st1) Q := p3
      have ev := ints_pl pl e
      subst ev
      by_cases hl : ns.length < 64
      · rw [if_pos hl] at p3
        refine ⟨l, ns, rfl, hs, hl, fun p0 c hp hcn => ⟨p0, _, c, rfl, upd_same, by omega, fun ns' p' h3 h4 h5 hp' => ?_⟩⟩
        have en : ns' = setI ns := sorted_eq h3 setI_sorted fun y => by rw [h4 y, setI_mem, decide_eq_true_eq]
        rw [en] at h5 ⊢
        exact fin_mkL (p3.rebase (Ext.misc hp)) (rel1.misc hp) hp' (pla_ints _) (by rw [List.length_map, h5, sizeLine_eq]; omega)
      · rw [if_neg hl] at p3
        exact p3.elim
  cases d with
  | list xs =>
    obtain ⟨l, vs, ev, h1, hz, pl⟩ := vw_list rel1 r1 e2
    exact fin l vs xs ev (.inl (.inl h1)) pl p2
  | tuple xs =>
    obtain ⟨l, o, vs, ev, h1, hn, hz, pl⟩ := vw_tup rel1 r1 e2
    exact fin l vs xs ev (.inr (.inl (.inr ⟨_, h1⟩))) pl p2
  | _ => exact p2.elim
end
end Fx

set_option Elab.async false
set_option linter.all false
set_option maxRecDepth 100000
set_option maxHeartbeats 4000000
/-! Fx34: the greatest of a dict's values (a proof of the library's HandS.Sort turned from min to max). -/
namespace L2
open PySem PySem.Spec PyProof.Rows
section
variable {X : Cx}
/-- max(o.values()), a dict with int values, one at least -/
def tMaxVals (td : TE) : TE := fun σ H Q => td σ H fun x H1 => ∃ a kvs is, x = V.ref a ∧ H1 a = some (.dK kvs) ∧ kvs.map (·.2) = is.map V.int ∧ is ≠ [] ∧ ∀ m, m ∈ is → (∀ j ∈ is, j ≤ m) → Q (.int m) H1
variable {o : Expr} {p pos apos mpos : Pos} {td : TE}
theorem pe_maxVals (hc : X.calm = true) (hg : Gl X "max") (hm : X.mg "max" = none) (hd : PE X o td) (hbase : attributeBase o "values" X.env (eval o X.env) = eval o X.env := by rfl) (hline : (apos.endLine == mpos.line) = true := by rfl)
    (hse : starEach [Expr.Call (.Attribute o "values" apos) [] [] mpos] X.env = [(false, eval (Expr.Call (.Attribute o "values" apos) [] [] mpos) X.env)] := by rfl) :
    PE X (.Call (.Name "max" p) [.Call (.Attribute o "values" apos) [] [] mpos] [] pos) (tMaxVals td) := by
  refine ⟨fun pins s σ H Q I h => ?_⟩
  refine wpAny_Call_Name_kw (ld_blt I hg hm (u := .builtin "max") (by first | rfl | decide +kernel) ?_ (by first | decide +kernel | decide) (by first | decide +kernel | decide))
  rw [hse]
  refine PySem.callWith_builtin1 (wpAny_Call_method0_late hbase hline (thn (hd.run pins s σ H _ I h) fun v s1 ⟨x, H1, I1, r1, a, kvs, is, ex, ha, hv, hne, q⟩ => ?_))
  subst ex
  obtain rfl : v = Value.ref a := r1
  obtain ⟨_, hsys, vs, rel, dof⟩ := dk_of I1.hok ha
  obtain ⟨ep, dat⟩ := dof.dictAt
  have dat' := dat
  obtain ⟨ob, es, ho, ex, hdat, hko, hpr, hnd⟩ := dat'
  refine ⟨"dict", "dict.values", F.plainAttrs_dict, F.slot_dict_values, F.type_dict_values, ⟨ob, ho, ex.1⟩, fun b e => ?_, Calls.callWith_builtin rfl (PySem.evalArgs_none ?_)⟩
  · cases e
    exact ⟨ob, ho, ex.2.1⟩
  refine call_meetsIn F.slot_dict_values ⟨ob, ho, ex.1⟩ F.entry_dict_values (F.args_dict_values_1 _) (meets_dict_values (mixKind X.prog X.w) a hsys) ⟨⟨vs, dof⟩, ?_⟩
  have k1 : ∀ b u, s1.heap.get? b = some u → (s1.heap.push { cls := .type "dict_values", data := .fields #[.ref a] }).get? b = some u := fun b u e => Heap.get?_push_of_some _ e
  have dat1 : (s1.heap.push { cls := .type "dict_values", data := .fields #[.ref a] }).DictAt (mixKind X.prog X.w) a vs ep := dat.keep k1
  have hlv : vs.length = is.length := by
    have e1 := congrArg List.length hv
    rw [List.length_map, List.length_map] at e1
    rw [← e1]
    exact (KV.length rel).symm
  have hlen : 0 < vs.length := by
    rw [hlv]
    exact List.length_pos_iff.mpr hne
  have hval : ∀ (i : Nat) (v : Value), (∃ k, vs[i]? = some (k, v)) → ∃ t, v = Value.int (is.getD i 0) t := fun i v ⟨k, hk⟩ => by
    obtain ⟨x, h1, h2⟩ := KV.at' rel hk
    have e1 : (kvs.map (·.2))[i]? = some x := by rw [List.getElem?_map, h1] <;> rfl
    rw [hv, List.getElem?_map] at e1
    obtain ⟨j, hj, e2⟩ := Option.map_eq_some_iff.mp e1
    subst e2
    obtain ⟨t, e3⟩ := h2
    refine ⟨t, ?_⟩
    rw [e3, List.getD_eq_getElem?_getD, hj] <;> rfl
  refine call_max_walk (wpAny_pyIter_values (v := s1.heap.objs.size) (d := a) ⟨_, Heap.get?_push_size _ rfl, rfl, rfl⟩ dat1 ?_)
  have hlt : a < s1.heap.objs.size := Heap.lt_size ho
  have hsz : (s1.heap.push { cls := .type "dict_values", data := .fields #[.ref a] }).objs.size = s1.heap.objs.size + 1 := Heap.size_push _ _
  refine ⟨_, _, _, _, _, _, _, rfl, Walks.dictValues (knd := mixKind X.prog X.w) (A := X.A.in1) (I.ok.hd hc) (s1.heap.push { cls := .type "dict_values", data := .fields #[.ref a] }).objs.size a (by rw [hsz]; exact Nat.ne_of_lt (Nat.lt_succ_of_lt hlt)) vs ep,
    ⟨⟨_, Heap.get?_push_size _ rfl, rfl, rfl⟩, dat1.keep fun b u e => Heap.get?_push_of_some _ e⟩, fun b hb => ?_, hlen, CmpOf.ints_gt (fun i => is.getD i 0) hval, fun v h' tk hP hk => ?_⟩
  · show b < ((s1.heap.push _).push _).objs.size
    rw [Heap.size_push, Heap.size_push]
    rw [hsz] at hb
    rcases List.mem_cons.mp hb with e | hb
    · rw [e]
      exact Nat.lt_succ_self _
    · have e : b = a := List.mem_singleton.mp hb
      rw [e]
      exact Nat.lt_succ_of_lt (Nat.lt_succ_of_lt hlt)
  · obtain ⟨t, rfl⟩ := hval _ v hP
    obtain ⟨b1, b2⟩ := argBest_gt (fun i => is.getD i 0) (vs.length - 1)
    refine ⟨.int _, H1, I1.kept (t' := tk) fun b u e => hk b u (fun hmem => ?_) (Heap.get?_push_of_some _ (k1 b u e)), ⟨t, rfl⟩, q _ ?_ fun j hj => ?_⟩
    · have e1 : b = (s1.heap.push { cls := .type "dict_values", data := .fields #[.ref a] }).objs.size := List.mem_singleton.mp hmem
      have e2 := Heap.lt_size e
      rw [hsz] at e1
      rw [e1] at e2
      exact absurd e2 (Nat.not_lt.mpr (Nat.le_succ _))
    · have hb : argBest (fun i j => decide (is.getD i 0 > is.getD j 0)) (vs.length - 1) < is.length := by omega
      rw [List.getD_eq_getElem?_getD, List.getElem?_eq_getElem hb]
      exact List.getElem_mem hb
    · obtain ⟨i, hi, e⟩ := List.mem_iff_getElem.mp hj
      have e2 : is.getD i 0 = j := by rw [List.getD_eq_getElem?_getD, List.getElem?_eq_getElem hi, ← e] <;> rfl
      rw [← e2]
      exact b2 i (by omega)
end
end L2
namespace Fx
open PySem PySem.Spec PyProof.Rows L2 NdefX LamX
section
variable {Γ : Gc} {X : Cx} {o : Expr} {Fa : Env → M Val} {p pos apos mpos : Pos}
theorem kp_ints {K : Pw} {H : Hp} : ∀ {kvs : List (Key × V)} {ps : List (PyData × PyData)} {ns : List Int}, KP K H kvs ps → intsOf (ps.map (·.2)) = some ns → kvs.map (·.2) = ns.map V.int := by
  intro kvs ps ns h e
  have q : PlA K H (kvs.map (·.2)) (ps.map (·.2)) := by
    clear e
    induction h with
    | nil => exact .nil
    | cons r t ih => exact .cons r.2.2 ih
  exact ints_pl q e
theorem de_maxVals {ob : Bool} (hc : X.calm = true) (hb : Blt X "max" (.builtin "max")) (ha : DE Γ X o Fa) (hbase : attributeBase o "values" X.env (eval o X.env) = eval o X.env) (hline : (apos.endLine == mpos.line) = true) :
    DE Γ X (.Call (.Name "max" p) [.Call (.Attribute o "values" apos) [] [] mpos] [] pos) (fun ε => M.bind (Fa ε) fun v => biV .maxVals ob [v]) := fun Wx tk => by
  refine (pe_maxVals hc hb.gl hb.no (ha Wx tk) hbase hline rfl).imp fun σ H Q ⟨W, ε, st, rel, env, post⟩ => ?_
  refine tG_of rel env post fun v x W1 H1 st1 e1 x1 rel1 env1 r1 p1 => ?_
  cases x with
  | d x => exact p1.elim
  | c c ws => exact p1.elim
  | g f => exact p1.elim
  | o l =>
    obtain ⟨hl, rfl⟩ := r1
    have p1 : Post Γ X (RVs Γ X σ) σ Wx W1 H1 st1 (M.bind (dctOf (.o l)) (fun p => (match p.1, intsOf (p.2.map (·.2)) with
    | false, some (m :: r) => int (maxI m r)
    | _, _ => M.bad)) st1) Q := p1
    obtain ⟨q, e2, p2⟩ := post_dct p1
    unfold dctOf at e2
    cases ec : st1[l]? with
    | none => simp only [ec] at e2; cases e2
    | some c =>
      simp only [ec] at e2
      cases c with
      | dead => cases e2
      | lst xs => cases e2
      | dct tk ps =>
        cases e2
        obtain ⟨n, ob', ho, hq⟩ := rel1.cel l _ ec (fun z => by cases z)
        cases tk with
        | true => exact p2.elim
        | false =>
          obtain ⟨kvs, rfl, hk⟩ := hq
          cases ei : intsOf (ps.map (·.2)) with
          | none => simp only [ei] at p2; exact p2.elim
          | some ns =>
            cases ns with
            | nil => simp only [ei] at p2; exact p2.elim
            | cons m r =>
              simp only [ei] at p2
              refine ⟨_, kvs, m :: r, rfl, ho, kp_ints hk ei, by simp, fun y hy hg => ?_⟩
              rw [maxI_eq hy hg]
              exact fin_d p2 rel1 (.pl (.int _))
end
end Fx

set_option Elab.async false
set_option linter.all false
set_option maxRecDepth 100000
set_option maxHeartbeats 4000000
/-! Fx35: sorted(xs, key=f), sorted(range(n), key=f). -/
namespace Fx
open PySem PySem.Spec PyProof.Rows L2 NdefX LamX
/-! ### within sorted -/
abbrev inn (X : Cx) : Cx := { X with A := X.A.in1.in1, xe := fun _ _ => False }
section
variable {Γ : Gc} {X : Cx} {k : Nat} {pins : List (Addr × PySem.Obj)} {σ : L2.St} {H : Hp} {s : Shared}
theorem inv_inn (I : Inv X pins σ H s) : Inv (inn X) pins σ H s := by
  obtain ⟨ok, a1, a2, a3, a4, a5, a6, a7, a8, a9, a10⟩ := I
  obtain ⟨b1, b2, b3, b4, b5, b6, b7, b8, b9, b10, b11, b12, b13, b14, b15, b16, b17, b18⟩ := ok
  exact ⟨⟨b1, b2, b3, b4, b5, b6, b7, b8, b9, b10, b11, b12, b13, b14, b15, b16, b17, b18⟩, a1, a2, a3, a4, a5, a6, a7, a8, a9, a10⟩
theorem inv_out (I : Inv (inn X) pins σ H s) : Inv X pins σ H s := by
  obtain ⟨ok, a1, a2, a3, a4, a5, a6, a7, a8, a9, a10⟩ := I
  obtain ⟨b1, b2, b3, b4, b5, b6, b7, b8, b9, b10, b11, b12, b13, b14, b15, b16, b17, b18⟩ := ok
  exact ⟨⟨b1, b2, b3, b4, b5, b6, b7, b8, b9, b10, b11, b12, b13, b14, b15, b16, b17, b18⟩, a1, a2, a3, a4, a5, a6, a7, a8, a9, a10⟩
theorem takes_inn : Takes (inn X) Never := fun u s' ⟨_, _, _, _, _, _, _, _, _, _, _, _, _, _, _, _, w⟩ => w.elim
theorem RV.inn {P : L2.St → Prop} {W : Wd} {n : Nat} {v : V} {x : Val} (r : RV Γ X P W H n v x) : RV Γ (inn X) P W H n v x := by
  cases x with
  | d x => exact r
  | o l => exact r
  | c k ws =>
    obtain ⟨f, F, wvs, ci, h1, h2, h3, h4, h5, h6, h7, h8, h9, h10⟩ := r
    exact ⟨f, F, wvs, ci, h1, h2, h3, h4, h5, h6, h7, h8, fun pins s σ' H' p I => h9 pins s σ' H' p (inv_out I), h10⟩
  | g f => exact r
/-! ### keys, one by one -/
theorem post_datQ {α β : Type} {R : Rl α β} {Wx : WX} {W : Wd} {st st2 : Sto} {x : Val} {g : PyData → M α} {Q : β → Hp → Prop} (p : Post Γ X R σ Wx W H st (M.bind (datP x) g st2) Q) : ∃ d, x = .d d ∧ isDct d = false ∧ Post Γ X R σ Wx W H st (g d st2) Q := by
  cases x with
  | d z =>
    unfold datP at p
    cases e : isDct z with
    | false => simp only [e, Bool.false_eq_true, if_false] at p; exact ⟨z, rfl, e, p⟩
    | true => simp only [e, if_true] at p; exact p.elim
  | o l => exact p.elim
  | c k ws => exact p.elim
  | g f => exact p.elim
theorem calm_datP {x : Val} : M.calm (datP x) = datP x := by
  funext s
  cases x with
  | d z =>
    unfold M.calm
    have e : datP (.d z) = if isDct z then M.bad else M.pure z := rfl
    rw [e]
    by_cases h : isDct z = true
    · rw [if_pos h]; rfl
    · rw [if_neg h]; rfl
  | _ => rfl
theorem keys_cons {Φ : Tbl} {y : Val} {x : PyData} {r : List PyData} {α : Type} {G : List PyData → M α} :
    M.bind (M.calm (keysOf Φ y (x :: r))) G = M.bind (M.calm (callV Φ y [.d x])) fun v => M.bind (datP v) fun d => M.bind (M.calm (keysOf Φ y r)) fun ks => G (d :: ks) := by
  show M.bind (M.calm (M.bind (callV Φ y [.d x]) fun k => M.bind (datP k) fun k => M.bind (keysOf Φ y r) fun ks => M.pure (k :: ks))) G = _
  rw [calm_bind, M.bind_assoc]
  congr 1
  funext v
  rw [calm_bind, M.bind_assoc, calm_datP]
  congr 1
  funext d
  rw [calm_bind, M.bind_assoc]
  congr 1
theorem each_snoc' {α β : Type} {r : α → β → Prop} {a : List α} {b : List β} {x : α} {y : β} (h : Paired r a b) (q : r x y) : Paired r (a ++ [x]) (b ++ [y]) := pair_app h (.cons q .nil)
theorem vals_snoc {vs : List V} {us : List Value} {v : V} {u : Value} (h : Vals vs us) (q : RelV v u) : Vals (vs ++ [v]) (us ++ [u]) := by
  induction h with
  | nil => exact .cons q .nil
  | cons a b ih => exact .cons a ih
/-- what an own object that nobody knows of is -/
structure OwnO (X : Cx) (pins : List (Addr × PySem.Obj)) (b : Addr) : Prop where
  l : b ≠ X.env.locals
  f : b ∉ X.fs
  n : X.s_0.heap.objs.size ≤ b
  c : ∀ x c, X.env.cells.lookup x = some c → c ≠ b
  p : ∀ p ∈ X.pn ++ pins, p.1 ≠ b
theorem sort_ks {xs : List PyData} (h : sortOk xs = true) : PySem.W.AllAlike xs ∧ PySem.W.Sortable xs := by
  have h1 := sort_alike h
  have h2 := sort_able h
  rw [List.map_id] at h1 h2
  exact ⟨h1, h2⟩
theorem pl_alike {K : Pw} {v : V} {d : PyData} : ∀ {vs : List V} {us : List Value} {ds : List PyData}, PlA K H vs ds → Vals vs us → PySem.W.EachIs (SR K H) us ds := fun a b => each_of a b
theorem room_inn {k : Nat} {A : Around} (r : Room (2 * k + 1) A) : Room (2 * k) A.in1.in1 :=
  ⟨r.hd, by have := r.dp; show A.depth + 3 * (2 * k) + 5 < _; omega, by have := r.un; show A.units + 1 + 1 + 16 * (2 * k) + 200 < _; omega⟩
set_option maxHeartbeats 8000000 in
theorem run_rest (C : Ctr Γ X.prog X.w X.K X.mg X.base k) (hr : Room (2 * k + 1) X.A) (hgd : X.A.guards = some []) {a kS : Addr} {e1 : Nat} {f : Addr} {y : Val} (hg : ∀ g, y = .g g → ∃ fi, Γ.fi g = some fi)
    {W : Wd} {st : Sto} {its : List Value} {vs : List V} {xs : List PyData} {ob : Bool} {Wx : WX} {Q : VK} {P : PySem.Fin → Shared → Prop} {Ee : Value → Shared → Prop}
    (I : Inv X ((a, seqObj "list" #[] e1) :: pins) σ H s) (oa : OwnO X pins a) (ok : OwnO X ((a, seqObj "list" #[] e1) :: pins) kS) (hn : H kS = none) (nk : s.heap.get? kS = some (seqObj "list" #[] 0))
    (rel : Rel Γ.T (kp X) W H st) (rv : Vals vs its) (q : PlA (kp X) W.Hs vs xs) (ry : RV Γ X (fun t => t = σ) W H st.length (.ref f) y) (hZ : its.length ≤ sizeLine)
    (post : Post Γ X (RVs Γ X σ) σ Wx W H st (M.bind (M.calm (keysOf (tbl Γ.p k) y xs)) (sortF ob xs) st) Q)
    (h : ∀ s', EP X pins σ Q (.ref a) s' → P (.done (.ret .none)) s') :
    wpAny (model X.prog X.w) X.A.in1.in1 (ksk_rest a (.ref f) false its.toArray e1 (.ref kS)) P Ee s := by
  have hlen : xs.length = its.length := by rw [← q.length, rv.length]
  have hka : kS ≠ a := fun z => ok.p _ (List.mem_append_right _ (List.mem_cons_self ..)) z.symm
  unfold ksk_rest
  refine wpAny_bind (wpAny_rule ?_)
  first
    | rw [List.forIn_toArray]
    | (rw [← Array.forIn_toList]; simp only [List.toList_toArray])
    | rw [← Array.forIn_toList]
  refine wpAny_bind (ksk_fold (fun i s' => ∃ H' W' st' kA e kv kd, Inv X ((a, seqObj "list" #[] e1) :: pins) σ H' s' ∧ H' kS = none ∧ s'.heap.get? kS = some (seqObj "list" kA e) ∧ Ext W H st W' H' st' ∧ Rel Γ.T (kp X) W' H' st' ∧
      Vals kv kA.toList ∧ PlA (kp X) W'.Hs kv kd ∧ kd.length = i ∧ Post Γ X (RVs Γ X σ) σ Wx W' H' st' (M.bind (M.calm (keysOf (tbl Γ.p k) y (xs.drop i))) (fun ks => sortF ob xs (kd ++ ks)) st') Q) its 0 s
    ⟨H, W, st, #[], 0, [], [], I, hn, nk, Ext.refl, rel, .nil, .nil, rfl, post⟩ ?step ?done)
  case step =>
    rintro j x s' hx ⟨H', W', st', kA, e, kv, kd, I', hn', nk', ex, rel', rk, qk, hl, post'⟩
    simp only [Nat.zero_add] at hl post' ⊢
    obtain ⟨v, hv, rx⟩ : ∃ v, vs[j]? = some v ∧ RelV v x := pair_r rv hx
    obtain ⟨d, hd, qd⟩ := q.getV hv
    have hj : j < its.length := (List.getElem?_eq_some_iff.mp hx).1
    have hdr : xs.drop j = d :: xs.drop (j + 1) := by
      rw [← List.getElem_cons_drop (by omega : j < xs.length)]
      congr 1
      have := (List.getElem?_eq_some_iff.mp hd).2
      exact this
    rw [hdr, keys_cons] at post'
    have I2 : Inv X ((kS, seqObj "list" kA e) :: (a, seqObj "list" #[] e1) :: pins) σ H' s' := I'.pins_of fun p hp => by
      rcases List.mem_cons.mp hp with z | z
      · subst z
        exact ⟨nk', hn', ok.l, ok.f, fun v z => by cases z⟩
      · exact I'.pin p (List.mem_append_right _ z)
    have I3 := inv_inn I2
    have hz : kA.size ≤ its.length := by
      have h1 : kv.length = kA.size := by
        have := rk.length
        rwa [Array.length_toList] at this
      have h2 := qk.length
      omega
    have run := run_v (X := inn X) (Wx := Never) (Q := fun b H2 => ∃ a' W2 st2, callV (tbl Γ.p k) y [.d d] st' = .ok a' st2 ∧ Ext W' H' st' W2 H2 st2 ∧ Rel Γ.T (kp X) W2 H2 st2 ∧ RVs Γ (inn X) σ W2 H2 st2.length b a' ∧
        Post Γ X (RVs Γ X σ) σ Wx W' H' st' (M.bind (datP a') (fun d => M.bind (M.calm (keysOf (tbl Γ.p k) y (xs.drop (j + 1)))) fun ks => sortF ob xs (kd ++ (d :: ks))) st2) Q)
      C (room_inn hr) hgd takes_inn I3 (RV.inn (RV.ext ry rel ex)) (vs := [v]) (us := [x]) (.cons rx .nil) hg rel' (xs := [.d d]) (.cons (Rp.pl (qd.more ex.hs)) .nil) (inner rfl post')
    obtain ⟨A, hA, run⟩ := run
    cases hA
    refine wpAny_bind (wpAny_attempt (wpAny_mono run (fun u s'' he => ?_) fun _ _ hF => hF.elim))
    obtain ⟨b, H2, I4, rb, a', W2, st2, _, x2, rel2, r2, p2⟩ := he
    obtain ⟨d2, rfl, hd2, p3⟩ := post_datQ p2
    have qb : Pl (kp X) W2.Hs b d2 := Rp.plain r2 hd2
    have I5 := inv_out I4
    obtain ⟨g1, g2, _⟩ := I5.pin (kS, seqObj "list" kA e) (List.mem_append_right _ (List.mem_cons_self ..))
    have I6 : Inv X ((a, seqObj "list" #[] e1) :: pins) σ H2 s'' := I5.pins_of fun p hp => I5.pin p (List.mem_append_right _ (List.mem_cons_of_mem _ hp))
    try dsimp only
    have s1 := Heap.SameBut.update s''.heap kS (Obj.mapSeq (·.push u))
    obtain ⟨c2, hc2⟩ : ∃ c2, (s''.heap.update kS (Obj.mapSeq (·.push u))).get? kS = some (seqObj "list" (kA.push u) c2) := ⟨_, get?_update_seq g1 (·.push u)⟩
    refine wpAny_bind (listUpdate_at g1 rfl ?_ (Nat.le_trans hz hZ) (Nat.le_trans (Nat.le_of_eq (Array.size_push ..)) (Nat.succ_le_succ (Nat.le_trans hz hZ))))
    have I7 : Inv X ((a, seqObj "list" #[] e1) :: pins) σ H2 { s'' with heap := s''.heap.update kS (Obj.mapSeq (·.push u)) } :=
      I6.turned (t' := s''.toks) (it := kS) (fun b o hb e => (s1.2 b hb).trans e) g2 ok.l (.inr ok.n) ok.c ok.p
    refine wpAny_pure ⟨rfl, H2, W2, st2, kA.push u, c2, kv ++ [b], kd ++ [d2], I7, g2, hc2, ex.trans x2, rel2, ?_, ?_, ?_, ?_⟩
    · rw [Array.toList_push]
      exact vals_snoc rk rb
    · exact (qk.more x2.hs).append (.cons qb .nil)
    · rw [List.length_append, hl]; rfl
    · have p4 := p3.rebase x2
      have e0 : (fun ks => sortF ob xs ((kd ++ [d2]) ++ ks)) = fun ks => sortF ob xs (kd ++ (d2 :: ks)) := by
        funext ks
        rw [List.append_assoc]
        rfl
      rw [e0]
      exact p4
  case done =>
    rintro s' ⟨H', W', st', kA, e, kv, kd, I', hn', nk', ex, rel', rk, qk, hl, post'⟩
    simp only [Nat.zero_add] at hl post'
    rw [List.drop_of_length_le (by omega)] at post'
    have post1 : Post Γ X (RVs Γ X σ) σ Wx W' H' st' (sortF ob xs (kd ++ []) st') Q := post'
    rw [List.append_nil] at post1
    unfold sortF at post1
    cases hc : (sortOk kd && kd.all (fun y => decide (y.depth ≤ 60))) with
    | false => rw [hc] at post1; exact post1.elim
    | true =>
      rw [hc, if_pos rfl] at post1
      simp only [Bool.and_eq_true, List.all_eq_true, decide_eq_true_eq] at hc
      obtain ⟨hal, hsk⟩ := sort_ks hc.1
      have hk : PySem.W.EachIs (fun v k => ∃ as, Reads s'.heap v k as) kA.toList kd := (each_of qk rk).mono fun u d ⟨x, a, b⟩ => pl_reads I' (Pl.sub rel'.sub _ _ b) a
      have hsz : kA.size = its.length := by
        have h1 := hk.length
        rw [Array.length_toList] at h1
        omega
      have hu : ∀ d, d ∈ kd → X.A.in1.in1.units + d.depth < cLine := fun d hd => by
        have h1 := hc.2 d hd
        have h2 := room_le hr (n := 2 + 60) (by omega)
        show X.A.units + 1 + 1 + d.depth < cLine
        omega
      obtain ⟨n1, n2, _⟩ := I'.pin (a, seqObj "list" #[] e1) (List.mem_append_right _ (List.mem_cons_self ..))
      obtain ⟨G, G1, G2⟩ := restrict s'.heap fun b => decide (b ≠ kS)
      have gk : ∀ b o, b ≠ kS → s'.heap.get? b = some o → G.get? b = some o := fun b o hb e => by
        rw [G1 b (decide_eq_true hb)]; exact e
      have gb : ∀ b o, G.get? b = some o → s'.heap.get? b = some o := fun b o e => by
        by_cases hb : b = kS
        · rw [G2 b (decide_eq_false fun z => z hb)] at e; cases e
        · rw [← G1 b (decide_eq_true hb)]; exact e
      have gn : G.get? kS = none := G2 kS (decide_eq_false fun z => z rfl)
      refine wpAny_bind (listItems_at nk' rfl ?_)
      refine PySem.W.keyH_end (κ := PySem.W.dataKind s'.heap kd) (h₁ := G) (fun b o hb e => gb b o e) gn nk' n1 hka (PySem.W.SortsAt.data (s := s') hk hal hsk hu) hsz hZ fun h3 tk3 c k3 n3 => h _ ?_
      have hlx : xs.length = kd.length := by omega
      have eR : PySem.W.EachIs (fun u (p : PyData × PyData) => SR (kp X) W'.Hs u p.1) its (xs.zip kd) := by
        refine PySem.W.each_of_map (fun p : PyData × PyData => p.1) ?_
        rw [List.map_fst_zip (by omega)]
        exact each_of (q.more ex.hs) rv
      have ekd : (xs.zip kd).map (·.2) = kd := List.map_snd_zip (by omega)
      have ko : PySem.W.KeyedOut false ((xs.zip kd).map (·.2)) its (PySem.W.sortVals (PySem.W.dataKind s'.heap kd) false kA.toList its) := by
        rw [ekd]
        exact ⟨s'.heap, kA.toList, hal, rfl, hk⟩
      have eo := PySem.W.each_map (R := SR (kp X) W'.Hs) (fun p : PyData × PyData => p.1) (PySem.W.keyedOut_each (fun p : PyData × PyData => p.2) ko eR)
      obtain ⟨vs', h2, h3'⟩ := of_each eo
      have hol : vs'.length ≤ sizeLine := by
        rw [h2.length]
        have := eo.length
        rw [this, List.length_map, List.length_mergeSort, List.length_zip]
        omega
      -- the heap without kS, without a, then with a
      obtain ⟨G', G1', G2'⟩ := restrict G fun b => decide (b ≠ a)
      have I6 : Inv X pins σ H' s' := I'.pins_of fun p hp => I'.pin p (List.mem_append_right _ (List.mem_cons_of_mem _ hp))
      have I7 : Inv X pins σ H' { s' with heap := G } := I6.turned (t' := s'.toks) (it := kS) gk hn' ok.l (.inr ok.n) ok.c fun p hp => ok.p p ((List.mem_append.mp hp).elim (fun z => List.mem_append_left _ z) fun z => List.mem_append_right _ (List.mem_cons_of_mem _ z))
      have I8 : Inv X pins σ H' { s' with heap := G' } := Inv.turned (s := { s' with heap := G }) (t' := s'.toks) (it := a) I7 (fun b o hb e => by rw [G1' b (decide_eq_true hb)]; exact e) n2 oa.l (.inr oa.n) oa.c oa.p
      have gn' : G'.get? a = none := G2' a (decide_eq_false fun z => z rfl)
      have kk : ∀ b u, G'.get? b = some u → h3.get? b = some u := fun b u e => by
        by_cases hb : b = a
        · rw [hb, gn'] at e; cases e
        · rw [G1' b (decide_eq_true hb)] at e
          exact k3 b u hb e
      have I9 : Inv X pins σ (upd H' a (.lst vs')) { s' with heap := h3, toks := tk3 } := I8.laidN (t' := tk3) kk gn' n2 ⟨hol, _, c, h2, n3⟩
      exact ⟨.ref a, _, I9, rfl, fin_mkL post1 rel' n2 h3' hol⟩
end
end Fx

set_option Elab.async false
set_option linter.all false
set_option maxRecDepth 100000
set_option maxHeartbeats 4000000
/-! Fx36: sorted(xs, key=f), sorted(range(n), key=f): the call. -/
namespace Fx
open PySem PySem.Spec PyProof.Rows L2 NdefX LamX
open PySem.W PySem.Calls
section
variable {Γ : Gc} {X : Cx} {k : Nat} {pins : List (Addr × PySem.Obj)} {σ : L2.St} {H : Hp} {s : Shared}
theorem own_of (I : Inv X pins σ H s) {b : Addr} (hb : s.heap.objs.size ≤ b) : OwnO X pins b := by
  obtain ⟨_, h2, h3, _, h5, h6⟩ := I.fpOk (H' := H) hb (I.hok.fresh hb)
  exact ⟨h2, h3, Nat.le_trans I.sz hb, h5, h6⟩
theorem run_sorted (C : Ctr Γ X.prog X.w X.K X.mg X.base k) (hr : Room (2 * k + 1) X.A) (hgd : X.A.guards = some []) {f : Addr} {y : Val} (hg : ∀ g, y = .g g → ∃ fi, Γ.fi g = some fi)
    {arg : Value} {W : Wd} {st : Sto} {vs : List V} {xs : List PyData} {ob : Bool} {Wx : WX} {Q : VK} (I : Inv X pins σ H s)
    (hc : ∀ (Qc : List Value → Shared → Prop) (Ec : Value → Shared → Prop), (∀ h' tk its, (∀ b o, s.heap.get? b = some o → h'.get? b = some o) → Vals vs its → Qc its { s with heap := h', toks := tk }) → wpAny (model X.prog X.w) X.A.in1 (collect arg) Qc Ec s)
    (rel : Rel Γ.T (kp X) W H st) (q : PlA (kp X) W.Hs vs xs) (ry : RV Γ X (fun t => t = σ) W H st.length (.ref f) y) (hZ : vs.length ≤ sizeLine)
    (post : Post Γ X (RVs Γ X σ) σ Wx W H st (M.bind (M.calm (keysOf (tbl Γ.p k) y xs)) (sortF ob xs) st) Q) :
    wpAny (model X.prog X.w) X.A (call (.builtin "sorted") [arg] [(Str.ofString "key", .ref f)]) (EP X pins σ Q) X.xe s := by
  refine call_function_entry_kw kind_sorted plain_sorted entry_sorted (ksk_s1 arg (.ref f)) ?_
  unfold Builtin.«sorted»
  refine wpAny_bind (m := checkCount "sorted" 1 1 _) (wpAny_pure ?_)
  refine wpAny_bind (hc _ _ fun h' tk its hk rv => ?_)
  have hL : its.length ≤ sizeLine := by rw [← rv.length]; exact hZ
  refine wpAny_bind (wpAny_newList ?_ hL)
  have I1 : Inv X pins σ H { s with heap := h', toks := tk } := I.kept hk
  have ha : (h'.push (seqObj "list" its.toArray 0)).get? h'.objs.size = some (seqObj "list" its.toArray 0) := Heap.get?_push_size _ rfl
  refine wpAny_bind (wpAny_holding (wpAny_call_entry_kw slot_list_sort ⟨_, ha, rfl⟩ entry_list_sort ?body (ksk_l1 _ _)))
  case body =>
    show wpAny (model X.prog X.w) X.A.in1.in1 (Builtin.«list.sort» ⟨[.ref h'.objs.size], [(Str.ofString "key", .ref f)]⟩) _ _ _
    rw [ksk_t1]
    obtain ⟨e1, ho1⟩ : ∃ e1, ((h'.push (seqObj "list" its.toArray 0)).update h'.objs.size (Obj.mapSeq fun _ => (#[] : Array Value))).get? h'.objs.size = some (seqObj "list" #[] e1) := ⟨_, get?_update_seq ha fun _ => #[]⟩
    have sz1 : (h'.push (seqObj "list" its.toArray 0)).objs.size = h'.objs.size + 1 := size_push' _ _
    have sz2 : (((h'.push (seqObj "list" its.toArray 0)).update h'.objs.size (Obj.mapSeq fun _ => (#[] : Array Value))).push (seqObj "tuple" its.toArray 0)).objs.size = h'.objs.size + 2 := by rw [size_push', Heap.size_update, sz1]
    unfold ksk_tree
    refine wpAny_bind (listItems_at ha rfl ?_)
    refine wpAny_bind (listUpdate_at ha rfl ?_ (by rw [List.size_toArray]; exact hL) (Nat.zero_le _))
    refine wpAny_bind (seqEpoch_at ho1 rfl ?_)
    refine wpAny_bind (wpAny_newTuple ?_ (by show its.length ≤ _; exact hL))
    refine wpAny_bind (wpAny_newList ?_ (Nat.zero_le _))
    refine wpAny_holding ?_
    have keep : ∀ b o, h'.get? b = some o → ((((h'.push (seqObj "list" its.toArray 0)).update h'.objs.size (Obj.mapSeq fun _ => (#[] : Array Value))).push (seqObj "tuple" its.toArray 0)).push (seqObj "list" #[] 0)).get? b = some o := fun b o e =>
      Heap.get?_push_of_some _ (Heap.get?_push_of_some _ ((Heap.get?_update_ne _ _ _ _ (Nat.ne_of_lt (Heap.lt_size e))).trans (Heap.get?_push_of_some _ e)))
    have I2 := I1.kept (t' := tk) keep
    have oa : OwnO X pins h'.objs.size := own_of I1 (Nat.le_refl _)
    have ok : OwnO X ((h'.objs.size, seqObj "list" #[] e1) :: pins) (((h'.push (seqObj "list" its.toArray 0)).update h'.objs.size (Obj.mapSeq fun _ => (#[] : Array Value))).push (seqObj "tuple" its.toArray 0)).objs.size := by
      have o1 := own_of I1 (b := (((h'.push (seqObj "list" its.toArray 0)).update h'.objs.size (Obj.mapSeq fun _ => (#[] : Array Value))).push (seqObj "tuple" its.toArray 0)).objs.size) (by rw [sz2]; exact Nat.le_add_right _ _)
      refine ⟨o1.l, o1.f, o1.n, o1.c, fun p hp => ?_⟩
      rcases List.mem_append.mp hp with z | z
      · exact o1.p p (List.mem_append_left _ z)
      · rcases List.mem_cons.mp z with z | z
        · subst z
          rw [sz2]
          exact Nat.ne_of_lt (by show h'.objs.size < h'.objs.size + 2; omega)
        · exact o1.p p (List.mem_append_right _ z)
    have hna : H h'.objs.size = none := I1.hok.fresh (Nat.le_refl _)
    have hnk : H (((h'.push (seqObj "list" its.toArray 0)).update h'.objs.size (Obj.mapSeq fun _ => (#[] : Array Value))).push (seqObj "tuple" its.toArray 0)).objs.size = none := I1.hok.fresh (by show h'.objs.size ≤ _; rw [sz2]; exact Nat.le_add_right _ _)
    refine run_rest C hr hgd hg (oa := oa) (I := I2.pins_of fun p hp => ?_) (ok := ok) (hn := hnk) (Heap.get?_push_size _ rfl) rel rv q ry hL post fun s' he => ?_
    · rcases List.mem_cons.mp hp with z | z
      · subst z
        exact ⟨Heap.get?_push_of_some _ (Heap.get?_push_of_some _ ho1), hna, oa.l, oa.f, fun v z => by cases z⟩
      · exact I2.pin p (List.mem_append_right _ z)
    · exact ⟨_, rfl, wpAny_pure ⟨_, rfl, he⟩⟩
/-! ### as an expression -/
variable {a fe : Expr} {p p2 pos q0 : Pos} {kp' : Pos} {Fa Ff : Env → M Val}
theorem hgf_of {y : Val} (hgf : ∀ g A, Γ.ad g = some A → ∃ fi, Γ.fi g = some fi) {W : Wd} {n : Nat} {v : V} (r : RV Γ X (fun t => t = σ) W H n v y) : ∀ g, y = .g g → ∃ fi, Γ.fi g = some fi := fun g e => by
  subst e
  obtain ⟨A, h, _⟩ := r
  exact hgf g A h
/-- a called value is a function -/
theorem callv_ref {Φ : Tbl} {y : Val} {W : Wd} {n : Nat} {v : V} (r : RV Γ X (fun t => t = σ) W H n v y) (h : isF y = true) : ∃ f, v = .ref f := by
  cases y with
  | d x => cases h
  | o l => cases h
  | c k ws => obtain ⟨f, F, wvs, ci, h1, _⟩ := r; exact ⟨f, h1⟩
  | g f => obtain ⟨A, _, h1⟩ := r; exact ⟨A, h1⟩
/-- a list or tuple as what is gone through -/
theorem seq_its {W : Wd} {st st' : Sto} {v : V} {y : Val} {d : PyData} {xs : List PyData} (rel : Rel Γ.T (kp X) W H st) (r : RV Γ X (fun t => t = σ) W H st.length v y) (h : vw y st = .ok d st') (e : d = .list xs) (I : Inv X pins σ H s) {u : Value} (ru : RelV v u) :
    ∃ vs, PlA (kp X) W.Hs vs xs ∧ vs.length ≤ sizeLine ∧ ∀ (Qc : List Value → Shared → Prop) (Ec : Value → Shared → Prop), (∀ h' tk its, (∀ b o, s.heap.get? b = some o → h'.get? b = some o) → Vals vs its → Qc its { s with heap := h', toks := tk }) → wpAny (model X.prog X.w) X.A.in1 (collect u) Qc Ec s := by
  subst e
  obtain ⟨l, vs, rfl, h1, hz, q⟩ := vw_list rel r h
  cases ru
  obtain ⟨its, rr, hl, _⟩ := I.list (.inl h1)
  exact ⟨vs, q, hz, fun Qc Ec hq => collect_list hl.isList (hq _ _ its (fun b o e => (Heap.get?_update_ne _ _ _ _ (Nat.ne_of_lt (Heap.lt_size e))).trans (Heap.get?_push_of_some _ e)) rr) (by rw [← rr.length]; exact hz)⟩
theorem de_sortK (C : Ctr Γ X.prog X.w X.K X.mg X.base k) (hr : Room (2 * k + 1) X.A) (hgd : X.A.guards = some []) (hgf : ∀ g A, Γ.ad g = some A → ∃ fi, Γ.fi g = some fi) {ob : Bool} (hb : Blt X "sorted" (.builtin "sorted")) (ha : DE Γ X a Fa) (hu : unstar a = true) (hf : DE Γ X fe Ff) :
    DE Γ X (.Call (.Name "sorted" p) [a] [⟨some "key", fe, kp'⟩] pos) (fun ε => M.bind (Fa ε) fun v => M.bind (Ff ε) fun f => if isF f then M.bind (vw v) fun x => sortKF (tbl Γ.p k) ob f x else M.bad) := fun Wx tk => by
  refine ⟨fun pins s σ H Q I ⟨W, ε, st, rel, env, post⟩ => ?_⟩
  refine wpAny_Call_Name_kw (ld_blt I hb.gl hb.no hb.is ?_ hb.nm hb.db)
  have he : backTo pos (starEach [a] X.env) = (false, eval a X.env) :: backTo pos (starEach [] X.env) := by rw [star_cons hu]; rfl
  refine PyProof.Rows.callWith_kw (thn ((pa_cons (ha Wx tk) pa_nil (star_cons hu)).run pos pins s σ H (fun vs H1 => ∃ v, vs = [v] ∧ ∃ W1 st1 y, Rel Γ.T (kp X) W1 H1 st1 ∧ EnvR Γ X W1 H1 st1.length σ ε ∧ RV Γ X (fun t => t = σ) W1 H1 st1.length v y ∧
      Post Γ X (RVs Γ X σ) σ Wx W1 H1 st1 (M.bind (Ff ε) (fun f => if isF f then M.bind (vw y) fun x => sortKF (tbl Γ.p k) ob f x else M.bad) st1) Q) I
    (tG_of rel env post fun v y W1 H1 st1 e1 x1 rel1 env1 r1 p1 => ⟨v, rfl, W1, st1, y, rel1, env1, r1, p1⟩)) fun us s1 ⟨vs, H1, I1, r1, v, hv, W1, st1, y, rel1, env1, ry, p1⟩ => ?_) he (by rw [he]; rfl)
  subst hv
  refine thn ((pk_cons (hf Wx tk) pk_nil).run pos pins s1 σ H1 (fun zs H2 => ∃ z, zs = [z] ∧ ∃ W2 st2 f, Ext W1 H1 st1 W2 H2 st2 ∧ Rel Γ.T (kp X) W2 H2 st2 ∧ RV Γ X (fun t => t = σ) W2 H2 st2.length z f ∧
      Post Γ X (RVs Γ X σ) σ Wx W2 H2 st2 ((if isF f then M.bind (vw y) fun x => sortKF (tbl Γ.p k) ob f x else M.bad) st2) Q) I1
    (tG_of rel1 env1 p1 fun z f W2 H2 st2 e2 x2 rel2 env2 r2 p3 => ⟨z, rfl, W2, st2, f, x2, rel2, r2, p3⟩)) fun ws s2 ⟨zs, H2, I2, r2, z, hz, W2, st2, f, x2, rel2, rf, p3⟩ => ?_
  subst hz
  obtain ⟨u, rfl, ru⟩ := vals1 r1
  obtain ⟨w, rfl, rw'⟩ := vals1 r2
  cases hF : isF f with
  | false => rw [hF] at p3; exact p3.elim
  | true =>
    rw [hF, if_pos rfl] at p3
    obtain ⟨fa, hfa⟩ := callv_ref (Φ := tbl Γ.p k) rf hF
    subst hfa
    cases rw'
    show wpAny _ _ (call (.builtin "sorted") [u] [(Str.ofString "key", Value.ref fa)]) _ _ _
    obtain ⟨d, ed, p4⟩ := post_vw p3
    unfold sortKF at p4
    cases d with
    | list xs =>
      obtain ⟨vs, q, hz, hc⟩ := seq_its rel2 (ry.ext rel1 x2) ed rfl I2 ru
      exact run_sorted C hr hgd (hgf_of hgf rf) I2 hc rel2 q rf hz p4
    | _ => exact p4.elim
/-- range(n), as a value -/
theorem cr_rangeV1 : CallR X (.type "range") (fun vs H Q => ∃ i, vs = [V.int i] ∧ ∀ p, H p = none → Q (.ref p) (upd H p (.rng 0 i))) := by
  intro pins s σ H vs us Q I r h
  obtain ⟨i, rfl, q⟩ := h
  obtain ⟨u1, rfl, ri⟩ := vals1 r
  obtain ⟨t, rfl⟩ := ri
  refine call_range_1 ⟨.ref s.heap.objs.size, upd H s.heap.objs.size (.rng 0 i), I.laid (t' := s.toks + 2) (fun b o e => Heap.get?_push_of_some _ e) (Nat.le_refl _) ?_, rfl, q _ (I.hok.fresh (Nat.le_refl _))⟩
  exact ⟨s.toks, t, s.toks + 1, Heap.get?_push_size _ rfl⟩
theorem pla_rng {K : Pw} {n : Int} {H : Hp} : PlA K H (rgV 0 n) (rngL 0 n.toNat 1) := by
  unfold rgV rngL
  have : (n - 0).toNat = n.toNat := by omega
  rw [this]
  generalize List.range n.toNat = l
  induction l with
  | nil => exact .nil
  | cons i r ih =>
    refine .cons ?_ ih
    show Pl K H (V.int (0 + (i : Int))) (PyData.int (0 + (i : Int) * 1))
    have e : (0 : Int) + (i : Int) * 1 = 0 + (i : Int) := by omega
    rw [e]
    exact .int _
theorem de_sortR (C : Ctr Γ X.prog X.w X.K X.mg X.base k) (hc0 : X.calm = true) (hr : Room (2 * k + 1) X.A) (hgd : X.A.guards = some []) (hgf : ∀ g A, Γ.ad g = some A → ∃ fi, Γ.fi g = some fi) {ob : Bool} (hb : Blt X "sorted" (.builtin "sorted")) (hb2 : Blt X "range" (.type "range")) (ha : DE Γ X a Fa) (hu : unstar a = true) (hf : DE Γ X fe Ff) :
    DE Γ X (.Call (.Name "sorted" p) [.Call (.Name "range" p2) [a] [] q0] [⟨some "key", fe, kp'⟩] pos) (fun ε => M.bind (Fa ε) fun v => (match v with
    | .d (.int j) => M.bind (Ff ε) fun f => sortRF (tbl Γ.p k) ob f j
    | _ => M.bad)) := fun Wx tk => by
  refine ⟨fun pins s σ H Q I ⟨W, ε, st, rel, env, post⟩ => ?_⟩
  refine wpAny_Call_Name_kw (ld_blt I hb.gl hb.no hb.is ?_ hb.nm hb.db)
  have hur : unstar (.Call (.Name "range" p2) [a] [] q0) = true := rfl
  have he : backTo pos (starEach [.Call (.Name "range" p2) [a] [] q0] X.env) = (false, eval (.Call (.Name "range" p2) [a] [] q0) X.env) :: backTo pos (starEach [] X.env) := by rw [star_cons hur]; rfl
  have hra : PE X (.Call (.Name "range" p2) [a] [] q0) _ := pe_callTy cr_rangeV1 hb2.gl hb2.no hb2.is (pa_cons (ha Wx tk) pa_nil (star_cons hu)) hb2.nm hb2.db (star_cons hu) rfl
  refine PyProof.Rows.callWith_kw (thn ((pa_cons hra pa_nil (star_cons hur)).run pos pins s σ H (fun vs H1 => ∃ r n, vs = [.ref r] ∧ H1 r = some (.rng 0 n) ∧ ∃ W1 st1, Rel Γ.T (kp X) W1 H1 st1 ∧ EnvR Γ X W1 H1 st1.length σ ε ∧
      Post Γ X (RVs Γ X σ) σ Wx W1 H1 st1 (M.bind (Ff ε) (fun f => sortRF (tbl Γ.p k) ob f n) st1) Q) I
    (tG_of rel env post fun v y W1 H1 st1 e1 x1 rel1 env1 r1 p1 => ?_)) fun us s1 ⟨vs, H1, I1, r1, r, n, hv, hr1, W1, st1, rel1, env1, p1⟩ => ?_) he (by rw [he]; rfl)
  · cases y with
    | d z =>
      cases z with
      | int j =>
        refine ⟨j, by rw [rv_int r1], fun p hp => ⟨p, j, rfl, upd_same, W1, st1, rel1.misc hp, env1.ext rel1 (Ext.misc hp), ?_⟩⟩
        exact Post.rebase p1 (Ext.misc hp)
      | _ => exact p1.elim
    | _ => exact p1.elim
  subst hv
  refine thn ((pk_cons (hf Wx tk) pk_nil).run pos pins s1 σ H1 (fun zs H2 => ∃ z, zs = [z] ∧ ∃ W2 st2 f, Ext W1 H1 st1 W2 H2 st2 ∧ Rel Γ.T (kp X) W2 H2 st2 ∧ RV Γ X (fun t => t = σ) W2 H2 st2.length z f ∧
      Post Γ X (RVs Γ X σ) σ Wx W2 H2 st2 (sortRF (tbl Γ.p k) ob f n st2) Q) I1
    (tG_of rel1 env1 p1 fun z f W2 H2 st2 e2 x2 rel2 env2 r2 p3 => ⟨z, rfl, W2, st2, f, x2, rel2, r2, p3⟩)) fun ws s2 ⟨zs, H2, I2, r2, z, hz, W2, st2, f, x2, rel2, rf, p3⟩ => ?_
  subst hz
  obtain ⟨u, rfl, ru⟩ := vals1 r1
  obtain ⟨w, rfl, rw'⟩ := vals1 r2
  cases ru
  unfold sortRF at p3
  cases hF : isF f with
  | false => rw [hF] at p3; exact p3.elim
  | true =>
    rw [hF, if_pos rfl] at p3
    obtain ⟨fa, hfa⟩ := callv_ref (Φ := tbl Γ.p k) rf hF
    subst hfa
    cases rw'
    show wpAny _ _ (call (.builtin "sorted") [.ref r] [(Str.ofString "key", Value.ref fa)]) _ _ _
    cases hb : (bnd62 n && decide (n ≤ 1000)) with
    | false => rw [hb] at p3; exact p3.elim
    | true =>
      rw [hb, if_pos rfl] at p3
      rw [Bool.and_eq_true, decide_eq_true_eq] at hb
      obtain ⟨b1, b2⟩ := bnd_ok hb.1
      have hr2 : H2 r = some (.rng 0 n) := x2.frame r _ hr1 (fun l hl z => by
        exact rel1.not_cel hr1 (fun y => by rcases y with ⟨_, z⟩ | ⟨_, z⟩ | ⟨_, _, _, z⟩ <;> first | (cases z; done) | (unfold TD at z; cases z)) hl z) (fun ps z => by cases z)
      obtain ⟨t, u, v, hat⟩ := I2.hok r _ hr2
      refine run_sorted C hr hgd (hgf_of hgf rf) I2 (vs := rgV 0 n) (fun Qc Ec hq => collect_range (n := n.toNat) (I2.ok.hd hc0) hat (small_one (by decide) (by decide) b1 b2) (by have := rangeSize_nat 0 n; rwa [show n - 0 = n from by omega] at this) (by omega) fun h' tk acc hk hi => hq h' tk acc.toList hk (vals_rg (by rw [show n - 0 = n from by omega]; exact hi))) rel2 pla_rng rf ?_ p3
      rw [rgV_length, sizeLine_eq]
      omega
end
end Fx

set_option Elab.async false
set_option linter.all false
set_option maxRecDepth 100000
set_option maxHeartbeats 1000000
/-! Fx40: the checker: does a text of the programs say what a text of ours says. -/
namespace Fx
open PySem PySem.Spec PyProof.Rows L2 NdefX LamX
/-- what a whole program tells, without its addresses -/
structure Gs where
  gl : Str → Bool
  gt : Str → Bool
  fps : Str → Option (List Str)
  fre : List Str
  cls : Nat → Option CI
structure GsOk (Γ : Gc) (G : Gs) : Prop where
  gl : ∀ x, G.gl x = true → ∃ d, Γ.p.gl x = some d
  gt : ∀ x, G.gt x = true → ∃ d, Γ.p.gt x = some d
  fps : ∀ f ps, G.fps f = some ps → ∃ A fi, Γ.ad f = some A ∧ Γ.fi f = some fi ∧ fi.ps = ps
  all : ∀ g A, Γ.ad g = some A → ∃ fi, Γ.fi g = some fi
  fre : ∀ x, x ∈ G.fre → x ∈ Γ.fre
  cls : ∀ k c, G.cls k = some c → Γ.ci k = some c
structure Ct where
  N : List Str
  sc : Scope
  fn : Str → Bool
  q : Str
  nm : Option (Nat → Nat → Str)
structure Cn (Γ : Gc) (k : Nat) (c : Ct) (X : Cx) : Prop where
  ok : Okx Γ k X
  ctr : Ctr Γ X.prog X.w X.K X.mg X.base k
  hN : X.N = c.N
  hsc : X.env.scope = c.sc
  hk : X.env.scope.kind = .function
  hfn : ∀ x, c.fn x = true → X.fn x = true
  mks : ∀ nm, c.nm = some nm → X.env.qual = c.q ∧ ∃ P, MkX Γ X P nm
/-! ### names -/
def isV (o : Option NameKind) : Bool := match o with
  | some .local => true
  | some .cell => true
  | some .free => true
  | _ => false
def isL (fn : Bool) (o : Option NameKind) : Bool := match o with
  | some .local => true
  | some .cell => fn
  | _ => false
def isG (o : Option NameKind) : Bool := match o with
  | some .globalImplicit => true
  | _ => false
def plainN (x : Str) : Bool := !(x == ("__debug__" : Str)) && !(x == ("__classdict__" : Str)) && !(x == ("__name__" : Str))
def nameB (c : Ct) (i : Nat) (x : Str) : Bool := decide (c.N[i]? = some x) && isV (c.sc.names.lookup x) && plainN x
def storeB (c : Ct) (i : Nat) (x : Str) : Bool := decide (c.N[i]? = some x) && isL (c.fn x) (c.sc.names.lookup x)
def glB (c : Ct) (x : Str) : Bool := isG (c.sc.names.lookup x) && plainN x
def bltB (G : Gs) (c : Ct) (x y : Str) : Bool := decide (x = y) && glB c x && decide (x ∈ G.fre)
def biN : Bi → Str
  | .len => "len" | .lenD => "len" | .max2 => "max" | .min2 => "min" | .max => "max" | .min => "min" | .sum => "sum" | .all => "all" | .any => "any" | .abs => "abs"
  | .int => "int" | .tuple => "tuple" | .list => "list" | .sorted => "sorted" | .divmod => "divmod" | .repr => "repr" | .str => "str" | .dictZip => "dict" | .sortedSet => "sorted" | .lenSet => "len" | .maxVals => "max" | .minVals => "min"
def biOk : Bi → Bool
  | .len => true | .max2 => true | .min2 => true | .max => true | .min => true | .sum => true | .all => true | .any => true | .abs => true
  | .int => true | .tuple => true | .list => true | .sorted => true | .divmod => true | _ => false
def meN : Me → Str
  | .index => "index" | .count => "count" | .get => "get" | .append => "append" | .extend => "extend" | .remove => "remove" | .split => "split" | .join => "join"
def meOk : Me → Bool
  | .index => true | .count => true | .get => true | .append => true | _ => false
/-- a test of such a text is its value's -/
def plainT : Expr → Bool
  | .UnaryOp .Not _ _ => false
  | .BoolOp _ _ _ => false
  | .IfExp _ _ _ _ => false
  | .Compare _ _ _ _ => false
  | _ => true
def isSet : Expr → Bool
  | .Set _ _ _ => true
  | _ => false
def isNo : E → Bool
  | .no => true
  | _ => false
/-! ### blocks -/
def ownOf (N : List Str) (js : List Nat) : List (Str × Nat) := js.filterMap fun j => (N[j]?).map fun x => (x, j)
def blkOkB (N : List Str) (sc scope : Scope) (own : List (Str × Nat)) : Bool :=
  decide (scope.kind = .function) && scope.names.all (fun y => decide (scope.names.lookup y.1 = some y.2)) && own.all (fun p => decide (N[p.2]? = some p.1)) &&
  scope.names.all (fun y => !decide (y.2 = .free) || decide (sc.names.lookup y.1 = some .cell) || decide (sc.names.lookup y.1 = some .free)) &&
  scope.names.all (fun y => !(decide (y.2 = .local) || decide (y.2 = .cell)) || decide (y.1 ∈ own.map (·.1)) || decide (y.1 ∉ N))
def subCt (c : Ct) (scope : Scope) : Ct := ⟨c.N, relS scope c.sc, fun x => scope.names.lookup x == some .cell, "", none⟩
def cstB : PyData → Const → Bool
  | .none, .none => true
  | .bool a, .bool b => a == b
  | .int a, .int b => decide (a = b)
  | .str a, .str b => decide (a = b) && PyData.strOk b && decide (b.length ≤ sizeLine)
  | _, _ => false
def isNm' : T → Bool
  | .nm _ => true
  | _ => false
def isTp : T → Bool
  | .tp _ => true
  | _ => false
def prI : I → Bool
  | .enum _ => true
  | .zip _ _ => true
  | _ => false
def isTupT : Expr → Bool
  | .Tuple _ _ _ => true
  | _ => false
/-! ### texts that are the same -/
section
variable {α : Type}
def eqL (f : α → α → Bool) : List α → List α → Bool
  | [], [] => true
  | a :: as, b :: bs => f a b && eqL f as bs
  | _, _ => false
def eqO (f : α → α → Bool) : Option α → Option α → Bool
  | none, none => true
  | some a, some b => f a b
  | _, _ => false
theorem eqL_eq {f : α → α → Bool} (hf : ∀ a b, f a b = true → a = b) : ∀ {as bs : List α}, eqL f as bs = true → as = bs
  | [], [], _ => rfl
  | a :: as, b :: bs, h => by
    unfold eqL at h
    rw [Bool.and_eq_true] at h
    rw [hf a b h.1, eqL_eq hf h.2]
  | [], _ :: _, h => by cases h
  | _ :: _, [], h => by cases h
theorem eqO_eq {f : α → α → Bool} (hf : ∀ a b, f a b = true → a = b) : ∀ {as bs : Option α}, eqO f as bs = true → as = bs
  | none, none, _ => rfl
  | some a, some b, h => by rw [hf a b h]
  | none, some _, h => by cases h
  | some _, none, h => by cases h
end
def eqAr (f : Expr → Expr → Bool) (a b : Arg) : Bool := decide (a.arg = b.arg) && eqO f a.annotation b.annotation && decide (a.pos = b.pos)
def eqArs (f : Expr → Expr → Bool) (a b : Arguments) : Bool := eqL (eqAr f) a.posonlyargs b.posonlyargs && eqL (eqAr f) a.args b.args && eqO (eqAr f) a.vararg b.vararg && eqL (eqAr f) a.kwonlyargs b.kwonlyargs && eqL (eqO f) a.kw_defaults b.kw_defaults && eqO (eqAr f) a.kwarg b.kwarg && eqL f a.defaults b.defaults
def eqKw (f : Expr → Expr → Bool) (a b : Keyword) : Bool := decide (a.arg = b.arg) && f a.value b.value && decide (a.pos = b.pos)
def eqCo (f : Expr → Expr → Bool) (a b : Comprehension) : Bool := f a.target b.target && f a.iter b.iter && eqL f a.ifs b.ifs && decide (a.is_async = b.is_async)
theorem eqAr_eq {f : Expr → Expr → Bool} (hf : ∀ a b, f a b = true → a = b) (a b : Arg) (h : eqAr f a b = true) : a = b := by
  obtain ⟨a1, a2, a3⟩ := a
  obtain ⟨b1, b2, b3⟩ := b
  simp only [eqAr, Bool.and_eq_true, decide_eq_true_eq] at h
  obtain ⟨⟨rfl, h⟩, rfl⟩ := h
  rw [eqO_eq hf h]
theorem eqArs_eq {f : Expr → Expr → Bool} (hf : ∀ a b, f a b = true → a = b) (a b : Arguments) (h : eqArs f a b = true) : a = b := by
  obtain ⟨a1, a2, a3, a4, a5, a6, a7⟩ := a
  obtain ⟨b1, b2, b3, b4, b5, b6, b7⟩ := b
  simp only [eqArs, Bool.and_eq_true] at h
  obtain ⟨⟨⟨⟨⟨⟨h1, h2⟩, h3⟩, h4⟩, h5⟩, h6⟩, h7⟩ := h
  rw [eqL_eq (eqAr_eq hf) h1, eqL_eq (eqAr_eq hf) h2, eqO_eq (eqAr_eq hf) h3, eqL_eq (eqAr_eq hf) h4, eqL_eq (fun a b => eqO_eq hf) h5, eqO_eq (eqAr_eq hf) h6, eqL_eq hf h7]
theorem eqKw_eq {f : Expr → Expr → Bool} (hf : ∀ a b, f a b = true → a = b) (a b : Keyword) (h : eqKw f a b = true) : a = b := by
  obtain ⟨a1, a2, a3⟩ := a
  obtain ⟨b1, b2, b3⟩ := b
  simp only [eqKw, Bool.and_eq_true, decide_eq_true_eq] at h
  obtain ⟨⟨rfl, h⟩, rfl⟩ := h
  rw [hf _ _ h]
theorem eqCo_eq {f : Expr → Expr → Bool} (hf : ∀ a b, f a b = true → a = b) (a b : Comprehension) (h : eqCo f a b = true) : a = b := by
  obtain ⟨a1, a2, a3, a4⟩ := a
  obtain ⟨b1, b2, b3, b4⟩ := b
  simp only [eqCo, Bool.and_eq_true, decide_eq_true_eq] at h
  obtain ⟨⟨⟨h1, h2⟩, h3⟩, rfl⟩ := h
  rw [hf _ _ h1, hf _ _ h2, eqL_eq hf h3]
def eqE : Nat → Expr → Expr → Bool
  | 0, _, _ => false
  | n + 1, a, b => match a, b with
    | .BoolOp o xs p, .BoolOp o' xs' p' => decide (o = o') && eqL (eqE n) xs xs' && decide (p = p')
    | .BinOp x o y p, .BinOp x' o' y' p' => eqE n x x' && decide (o = o') && eqE n y y' && decide (p = p')
    | .UnaryOp o x p, .UnaryOp o' x' p' => decide (o = o') && eqE n x x' && decide (p = p')
    | .Lambda as x sc p, .Lambda as' x' sc' p' => eqArs (eqE n) as as' && eqE n x x' && decide (sc = sc') && decide (p = p')
    | .IfExp x y z p, .IfExp x' y' z' p' => eqE n x x' && eqE n y y' && eqE n z z' && decide (p = p')
    | .Dict ks vs p, .Dict ks' vs' p' => eqL (eqO (eqE n)) ks ks' && eqL (eqE n) vs vs' && decide (p = p')
    | .Set xs k p, .Set xs' k' p' => eqL (eqE n) xs xs' && decide (k = k') && decide (p = p')
    | .ListComp x gs sc p, .ListComp x' gs' sc' p' => eqE n x x' && eqL (eqCo (eqE n)) gs gs' && decide (sc = sc') && decide (p = p')
    | .DictComp x y gs sc p, .DictComp x' y' gs' sc' p' => eqE n x x' && eqE n y y' && eqL (eqCo (eqE n)) gs gs' && decide (sc = sc') && decide (p = p')
    | .Compare x os ys p, .Compare x' os' ys' p' => eqE n x x' && decide (os = os') && eqL (eqE n) ys ys' && decide (p = p')
    | .Call x ys ks p, .Call x' ys' ks' p' => eqE n x x' && eqL (eqE n) ys ys' && eqL (eqKw (eqE n)) ks ks' && decide (p = p')
    | .Constant v k p, .Constant v' k' p' => decide (v = v') && decide (k = k') && decide (p = p')
    | .Attribute x m p, .Attribute x' m' p' => eqE n x x' && decide (m = m') && decide (p = p')
    | .Subscript x y p, .Subscript x' y' p' => eqE n x x' && eqE n y y' && decide (p = p')
    | .Starred x p, .Starred x' p' => eqE n x x' && decide (p = p')
    | .Name x p, .Name x' p' => decide (x = x') && decide (p = p')
    | .List xs p, .List xs' p' => eqL (eqE n) xs xs' && decide (p = p')
    | .Tuple xs k p, .Tuple xs' k' p' => eqL (eqE n) xs xs' && decide (k = k') && decide (p = p')
    | .Slice x y z p, .Slice x' y' z' p' => eqO (eqE n) x x' && eqO (eqE n) y y' && eqO (eqE n) z z' && decide (p = p')
    | _, _ => false
theorem eqE_eq : ∀ (n : Nat) (a b : Expr), eqE n a b = true → a = b
  | 0, _, _, h => by cases h
  | n + 1, a, b, h => by
    have ih := eqE_eq n
    unfold eqE at h
    split at h <;> first
      | (cases h; done)
      | (simp only [Bool.and_eq_true, decide_eq_true_eq] at h
         simp only [Expr.BoolOp.injEq, Expr.BinOp.injEq, Expr.UnaryOp.injEq, Expr.Lambda.injEq, Expr.IfExp.injEq, Expr.Dict.injEq, Expr.Set.injEq, Expr.ListComp.injEq, Expr.DictComp.injEq, Expr.Compare.injEq, Expr.Call.injEq, Expr.Constant.injEq, Expr.Attribute.injEq, Expr.Subscript.injEq, Expr.Starred.injEq, Expr.Name.injEq, Expr.List.injEq, Expr.Tuple.injEq, Expr.Slice.injEq]
         refine ?_
         first
           | exact ⟨h.1.1, eqL_eq ih h.1.2, h.2⟩
           | exact ⟨ih _ _ h.1.1.1, h.1.1.2, ih _ _ h.1.2, h.2⟩
           | exact ⟨h.1.1, ih _ _ h.1.2, h.2⟩
           | exact ⟨eqArs_eq ih _ _ h.1.1.1, ih _ _ h.1.1.2, h.1.2, h.2⟩
           | exact ⟨ih _ _ h.1.1.1, ih _ _ h.1.1.2, ih _ _ h.1.2, h.2⟩
           | exact ⟨eqL_eq (fun a b => eqO_eq ih) h.1.1, eqL_eq ih h.1.2, h.2⟩
           | exact ⟨eqL_eq ih h.1.1, h.1.2, h.2⟩
           | exact ⟨ih _ _ h.1.1.1, eqL_eq (eqCo_eq ih) h.1.1.2, h.1.2, h.2⟩
           | exact ⟨ih _ _ h.1.1.1.1, ih _ _ h.1.1.1.2, eqL_eq (eqCo_eq ih) h.1.1.2, h.1.2, h.2⟩
           | exact ⟨ih _ _ h.1.1.1, h.1.1.2, eqL_eq ih h.1.2, h.2⟩
           | exact ⟨ih _ _ h.1.1.1, eqL_eq ih h.1.1.2, eqL_eq (eqKw_eq ih) h.1.2, h.2⟩
           | exact ⟨h.1.1, h.1.2, h.2⟩
           | exact ⟨ih _ _ h.1.1, h.1.2, h.2⟩
           | exact ⟨ih _ _ h.1.1, ih _ _ h.1.2, h.2⟩
           | exact ⟨ih _ _ h.1, h.2⟩
           | exact ⟨h.1, h.2⟩
           | exact ⟨eqL_eq ih h.1, h.2⟩
           | exact ⟨eqO_eq ih h.1.1.1, eqO_eq ih h.1.1.2, eqO_eq ih h.1.2, h.2⟩)
def eqS : Nat → Stmt → Stmt → Bool
  | 0, _, _ => false
  | n + 1, a, b => match a, b with
    | .Return x p, .Return x' p' => eqO (eqE (n + 40)) x x' && decide (p = p')
    | .Assign xs y p, .Assign xs' y' p' => eqL (eqE (n + 40)) xs xs' && eqE (n + 40) y y' && decide (p = p')
    | .AugAssign x o y p, .AugAssign x' o' y' p' => eqE (n + 40) x x' && decide (o = o') && eqE (n + 40) y y' && decide (p = p')
    | .For x y ss tt p, .For x' y' ss' tt' p' => eqE (n + 40) x x' && eqE (n + 40) y y' && eqL (eqS n) ss ss' && eqL (eqS n) tt tt' && decide (p = p')
    | .While x ss tt p, .While x' ss' tt' p' => eqE (n + 40) x x' && eqL (eqS n) ss ss' && eqL (eqS n) tt tt' && decide (p = p')
    | .If x ss tt p, .If x' ss' tt' p' => eqE (n + 40) x x' && eqL (eqS n) ss ss' && eqL (eqS n) tt tt' && decide (p = p')
    | .Expr x p, .Expr x' p' => eqE (n + 40) x x' && decide (p = p')
    | .Pass p, .Pass p' => decide (p = p')
    | .Break p, .Break p' => decide (p = p')
    | .Continue p, .Continue p' => decide (p = p')
    | .Raise x y p, .Raise x' y' p' => eqO (eqE (n + 40)) x x' && eqO (eqE (n + 40)) y y' && decide (p = p')
    | _, _ => false
theorem eqS_eq : ∀ (n : Nat) (a b : Stmt), eqS n a b = true → a = b
  | 0, _, _, h => by cases h
  | n + 1, a, b, h => by
    have ih := eqS_eq n
    have ie := eqE_eq (n + 40)
    unfold eqS at h
    split at h <;> first
      | (cases h; done)
      | (simp only [Bool.and_eq_true, decide_eq_true_eq] at h
         simp only [Stmt.Return.injEq, Stmt.Assign.injEq, Stmt.AugAssign.injEq, Stmt.For.injEq, Stmt.While.injEq, Stmt.If.injEq, Stmt.Expr.injEq, Stmt.Pass.injEq, Stmt.Break.injEq, Stmt.Continue.injEq, Stmt.Raise.injEq]
         first
           | exact ⟨eqO_eq ie h.1, h.2⟩
           | exact ⟨eqL_eq ie h.1.1, ie _ _ h.1.2, h.2⟩
           | exact ⟨ie _ _ h.1.1.1, h.1.1.2, ie _ _ h.1.2, h.2⟩
           | exact ⟨ie _ _ h.1.1.1.1, ie _ _ h.1.1.1.2, eqL_eq ih h.1.1.2, eqL_eq ih h.1.2, h.2⟩
           | exact ⟨ie _ _ h.1.1.1, eqL_eq ih h.1.1.2, eqL_eq ih h.1.2, h.2⟩
           | exact ⟨ie _ _ h.1, h.2⟩
           | exact ⟨eqO_eq ie h.1.1, eqO_eq ie h.1.2, h.2⟩
           | exact h)
def eqB (a b : FuncBody) : Bool := match a, b with
  | .stmts x, .stmts y => eqL (eqS 40) x y
  | .expr x, .expr y => eqE 60 x y
  | _, _ => false
theorem eqB_eq {a b : FuncBody} (h : eqB a b = true) : a = b := by
  unfold eqB at h
  split at h
  · rw [eqL_eq (eqS_eq 40) h]
  · rw [eqE_eq 60 _ _ h]
  · cases h
def mkB (c : Ct) (G : Gs) (name : Str) (params : Arguments) (body : FuncBody) (scope : Scope) (pos : Pos) (k : Nat) (js : List Nat) : Bool := match c.nm, G.cls k with
  | some nm, some ci => eqArs (eqE 5) ci.params params && eqB ci.body body && decide (ci.scope = scope) && decide (nm pos.line pos.col = c.q ++ name) && scope.names.all (fun y => !decide (y.2 = .free) || decide (c.sc.names.lookup y.1 = some .cell) || decide (c.sc.names.lookup y.1 = some .free)) &&
      ci.fr.all (fun y => decide ((y, NameKind.free) ∈ scope.names)) && decide (js.map (fun j => c.N[j]?) = ci.fr.map some) && params.defaults.isEmpty && params.kw_defaults.isEmpty
  | _, _ => false
/-- no annotations -/
def annB (p : Arguments) : Bool := p.posonlyargs.isEmpty && p.kwonlyargs.isEmpty && p.vararg.isNone && p.kwarg.isNone && p.args.all fun a => a.annotation.isNone
mutual
def okE (G : Gs) : E → Bool → Ct → Expr → Bool
  | .no, _, _, _ => true
  | .var i, _, c, e => (match e with
    | .Name x _ => nameB c i x
    | _ => false)
  | .glob y, _, c, e => (match e with
    | .Name x _ => decide (x = y) && glB c x && G.gl x
    | _ => false)
  | .cst d, _, _, e => (match e with
    | .Constant v _ _ => cstB d v
    | _ => false)
  | .neg a, _, c, e => (match e with
    | .UnaryOp .USub x _ => okE G a false c x
    | _ => false)
  | .notv a, t, c, e => (match e with
    | .UnaryOp .Not x _ => okE G a t c x
    | _ => false)
  | .bin op a b, _, c, e => (match e with
    | .BinOp x o y _ => decide (o = op) && okE G a false c x && okE G b false c y
    | _ => false)
  | .catO a b, _, c, e => (match e with
    | .BinOp x .Add y _ => okE G a false c x && okE G b false c y
    | _ => false)
  | .mulO a b, _, c, e => (match e with
    | .BinOp x .Mult y _ => okE G a false c x && okE G b false c y
    | _ => false)
  | .cmp op a b, _, c, e => (match e with
    | .Compare x [o] [y] _ => decide (o = op) && !behindInMarks op y && okE G a false c x && okE G b false c y
    | _ => false)
  | .din neg a d, _, c, e => (match e with
    | .Compare x [o] [y] _ => decide (o = if neg then .NotIn else .In) && !behindInMarks o y && okE G a false c x && okE G d false c y
    | _ => false)
  | .ing neg a n, _, c, e => (match e with
    | .Compare x [o] [.Name y _] _ => decide (o = if neg then .NotIn else .In) && decide (y = n) && glB c y && G.gt y && okE G a false c x
    | _ => false)
  | .rep neg a b, _, c, e => (match e with
    | .Compare (.Call (.Name f _) [x] [] _) [o] [.Call (.Name g _) [y] [] _] _ => decide (o = if neg then .NotEq else .Eq) && bltB G c f "repr" && bltB G c g "repr" && unstar x && unstar y && okE G a false c x && okE G b false c y
    | _ => false)
  | .chain o1 o2 a b d, _, c, e => (match e with
    | .Compare x [p1, p2] [y, z] _ => decide (p1 = o1) && decide (p2 = o2) && !lastMarks [p1, p2] [y, z] && okE G a false c x && okE G b false c y && okE G d false c z
    | _ => false)
  | .andv a b, t, c, e => (match e with
    | .BoolOp .And [x, y] _ => okE G a t c x && okE G b t c y
    | .BoolOp .And (x :: y :: z :: rest) p => okE G a t c x && okE G b t c (.BoolOp .And (y :: z :: rest) p)
    | _ => false)
  | .orv a b, t, c, e => (match e with
    | .BoolOp .Or [x, y] _ => okE G a t c x && okE G b t c y
    | .BoolOp .Or (x :: y :: z :: rest) p => okE G a t c x && okE G b t c (.BoolOp .Or (y :: z :: rest) p)
    | _ => false)
  | .ife d a b, t, c, e => (match e with
    | .IfExp z x y _ => !t && okE G d true c z && okE G a false c x && okE G b false c y
    | _ => false)
  | .tup es, _, c, e => (match e with
    | .Tuple xs _ _ => okEs G es c xs
    | _ => false)
  | .lst _ es, _, c, e => (match e with
    | .List xs _ => okEs G es c xs
    | _ => false)
  | .dnew _, _, _, e => (match e with
    | .Dict [] [] _ => true
    | _ => false)
  | .sub a i, _, c, e => (match e with
    | .Subscript x y _ => !isSlice y && okE G a false c x && okE G i false c y
    | _ => false)
  | .dsub a i, _, c, e => (match e with
    | .Subscript x y _ => !isSlice y && okE G a false c x && okE G i false c y
    | _ => false)
  | .slc a lo hi, _, c, e => (match e with
    | .Subscript x (.Slice l h none _) _ => okE G a false c x && (match l with
      | none => isNo lo
      | some y => !isNo lo && okE G lo false c y) && (match h with
      | none => isNo hi
      | some y => !isNo hi && okE G hi false c y)
    | _ => false)
  | .rev a, _, c, e => (match e with
    | .Subscript x (.Slice none none (some (.UnaryOp .USub (.Constant (.int i) _ _) _)) _) _ => decide (i = 1) && okE G a false c x
    | _ => false)
  | .isi a ty, _, c, e => (match e with
    | .Call (.Name f _) [x, .Name y _] [] _ => bltB G c f "isinstance" && bltB G c y (Str.ofString (tyN ty)) && unstar x && okE G a false c x
    | _ => false)
  | .bi b _ es, _, c, e => (match b, es with
    | .sortedSet, .cons a .nil => (match e with
      | .Call (.Name f _) [.Call (.Name g _) [x] [] _] [] _ => bltB G c f "sorted" && bltB G c g "set" && unstar x && okE G a false c x
      | _ => false)
    | .maxVals, .cons a .nil => (match e with
      | .Call (.Name f _) [.Call (.Attribute x m ap) [] [] mp] [] _ => bltB G c f "max" && decide (m = ("values" : Str)) && (ap.endLine == mp.line) && okBase x && okE G a false c x
      | _ => false)
    | b, es => (match e with
      | .Call (.Name f _) (x :: xs) [] _ => biOk b && bltB G c f (biN b) && unstars (x :: xs) && okEs G es c (x :: xs)
      | _ => false))
  | .me m a es, _, c, e => (match e with
    | .Call (.Attribute x nm ap) (y :: ys) [] cp => meOk m && decide (nm = meN m) && okBase x && unstars (y :: ys) && decide ((y :: ys).length < 20) && (ap.endLine == cp.line) && okE G a false c x && okEs G es c (y :: ys)
    | _ => false)
  | .call f es pm, _, c, e => (match e with
    | .Call (.Name g _) xs kws _ => decide (g = f) && glB c g && (match G.fps f with
      | some ps => (match xs, kws with
        | [], [] => pm.isEmpty && okEs G es c []
        | x :: xs, [] => pm.isEmpty && unstars (x :: xs) && okEs G es c (x :: xs)
        | [], kw :: kws => !pm.isEmpty && decide ((kw :: kws).map (·.arg) = ((kw :: kws).filterMap (·.arg)).map some) && namesOk ps ((kw :: kws).filterMap (·.arg)) 0 pm && okKs G es c (kw :: kws)
        | _, _ => false)
      | none => false)
    | _ => false)
  | .callv i es, _, c, e => (match e with
    | .Call (.Name x _) (y :: ys) [] _ => nameB c i x && unstars (y :: ys) && okEs G es c (y :: ys)
    | _ => false)
  | .comp _ own cs a, _, c, e => (match e with
    | .ListComp elt gs scope _ => decide ((ownOf c.N own).map (·.2) = own) && blkOkB c.N c.sc scope (ownOf c.N own) && okC G cs own c scope gs && okE G a false (subCt c scope) elt
    | _ => false)
  | .dcomp tk own cs a b, _, c, e => (match e with
    | .DictComp kx vx gs scope _ => !tk && decide ((ownOf c.N own).map (·.2) = own) && blkOkB c.N c.sc scope (ownOf c.N own) && okC G cs own c scope gs && okE G a false (subCt c scope) kx && okE G b false (subCt c scope) vx
    | _ => false)
  | .clo k js, _, c, e => (match e with
    | .Lambda params body scope pos => mkB c G "<lambda>" params (.expr body) scope pos k js
    | _ => false)
  | .fn f, _, c, e => (match e with
    | .Name x _ => decide (x = f) && glB c x && (G.fps f).isSome
    | _ => false)
  | .frz a, t, c, e => !t && okE G a false c e
  | .sortK _ a f, _, c, e => (match e with
    | .Call (.Name n _) [x] [⟨some kn, y, _⟩] _ => bltB G c n "sorted" && decide (kn = ("key" : Str)) && unstar x && okE G a false c x && okE G f false c y
    | _ => false)
  | .sortR _ a f, _, c, e => (match e with
    | .Call (.Name n _) [.Call (.Name m _) [x] [] _] [⟨some kn, y, _⟩] _ => bltB G c n "sorted" && bltB G c m "range" && decide (kn = ("key" : Str)) && unstar x && okE G a false c x && okE G f false c y
    | _ => false)
  | _, _, _, _ => false
def okEs (G : Gs) : Es → Ct → List Expr → Bool
  | .nil, _, xs => xs.isEmpty
  | .cons a es, c, xs => (match xs with
    | x :: xs => unstar x && okE G a false c x && okEs G es c xs
    | [] => false)
def okKs (G : Gs) : Es → Ct → List Keyword → Bool
  | .nil, _, xs => xs.isEmpty
  | .cons a es, c, xs => (match xs with
    | x :: xs => okE G a false c x.value && okKs G es c xs
    | [] => false)
def okI (G : Gs) : I → Ct → Expr → Expr → Bool
  | .of a, c, _, e => !isSet e && okE G a false c e
  | .rng1 a, c, _, e => (match e with
    | .Call (.Name f _) [x] [] _ => bltB G c f "range" && unstar x && okE G a false c x
    | _ => false)
  | .rng2 a b, c, _, e => (match e with
    | .Call (.Name f _) [x, y] [] _ => bltB G c f "range" && unstar x && unstar y && okE G a false c x && okE G b false c y
    | _ => false)
  | .enum a, c, tg, e => (match e with
    | .Call (.Name f _) [x] [] _ => isTupT tg && bltB G c f "enumerate" && unstar x && okE G a false c x
    | _ => false)
  | .zip a b, c, tg, e => (match e with
    | .Call (.Name f _) [x, y] [] _ => isTupT tg && bltB G c f "zip" && unstar x && unstar y && okE G a false c x && okE G b false c y
    | _ => false)
  | _, _, _, _ => false
def okC (G : Gs) : Cs → List Nat → Ct → Scope → List Comprehension → Bool
  | .cons t it d .nil, own, c, scope, gs => (match gs with
    | [⟨tg, iter, ifs, 0⟩] => okI G it c tg iter && (!prI it || isTp t) && okT G t own (subCt c scope) tg && (match ifs with
      | [] => isNo d
      | [x] => !isNo d && okE G d true (subCt c scope) x
      | _ => false)
    | _ => false)
  | _, _, _, _, _ => false
def okT (G : Gs) : T → List Nat → Ct → Expr → Bool
  | .nm i, vv, c, e => (match e with
    | .Name x _ => storeB c i x && decide (i ∈ vv)
    | _ => false)
  | .tp ts, vv, c, e => (match e with
    | .Tuple xs _ _ => okTs G ts vv c xs
    | _ => false)
  | .sb a i, _, c, e => (match e with
    | .Subscript x y _ => !isSlice y && okE G a false c x && okE G i false c y
    | _ => false)
  | .ds a i, _, c, e => (match e with
    | .Subscript x y _ => !isSlice y && okE G a false c x && okE G i false c y
    | _ => false)
def okTs (G : Gs) : Ts → List Nat → Ct → List Expr → Bool
  | .nil, _, _, xs => xs.isEmpty
  | .cons t ts, vv, c, xs => (match xs with
    | x :: xs => unstar x && okT G t vv c x && okTs G ts vv c xs
    | [] => false)
end
/-! ### statements -/
/-- where a comprehension is stored, its own dict goes first -/
def swB (c : Ct) (x : Str) (py : Pos) (e : Expr) : Bool := match e with
  | .ListComp _ _ s p => decide (c.sc.names.lookup x = some .local) && (py.line == p.line) && !(s.names.any fun (n, k) => n == x && (k == .local || k == .cell))
  | .DictComp _ _ _ s p => decide (c.sc.names.lookup x = some .local) && (py.line == p.line) && !(s.names.any fun (n, k) => n == x && (k == .local || k == .cell))
  | _ => false
def swOff (c : Ct) (x : Str) : Bool := !decide (c.sc.names.lookup x = some .local)
def isComp : E → Bool
  | .comp _ _ _ _ => true
  | .dcomp _ _ _ _ _ => true
  | _ => false
/-- the stores of a pair, the last one first -/
def parSw (vs : List Expr) (x y : Str) (px py : Pos) (c : Ct) : Option Bool :=
  if !unstars vs then none
  else if !(decide (c.sc.names.lookup x = some .local) && decide (c.sc.names.lookup y = some .local) && (py.line == px.line)) then some false
  else if decide (x = y) then none
  else if vs.all (foldedForSure 8) then some false
  else if vs.all (constantsAlone 8) then none
  else some true
mutual
def okS (G : Gs) : S → Ct → Stmt → Bool
  | .ex a, c, s => isNo a || (match s with
    | .Expr e _ => !compE e && okE G a false c e
    | _ => false)
  | .asg t a, c, s => (match s with
    | .Assign [e] v p => (match t with
      | .nm i => (match e with
        | .Name x py => storeB c i x && okE G a false c v && (if compE v then isComp a && (swOff c x || (swB c x py v)) else true)
        | _ => false)
      | t => !isNm e && unstar e && !(isTupE e && isTupE v) && !isLstE e && okT G t (List.range c.N.length) c e && okE G a false c v)
    | _ => false)
  | .par ts es, c, s => (match ts with
    | .cons (.nm i) (.cons (.nm j) .nil) => (match s with
      | .Assign [.Tuple [.Name x px, .Name y py] _ _] (.Tuple [a, b] _ _) _ => storeB c i x && storeB c j y && okEs G es c [a, b] && (match parSw [a, b] x y px py c with
        | some true => decide (i ≠ j)
        | some false => true
        | none => false)
      | _ => false)
    | _ => false)
  | .aug i op a, c, s => (match s with
    | .AugAssign (.Name x _) o v _ => decide (o = op) && (decide (op = .Add) || decide (op = .Sub)) && storeB c i x && okE G a false c v
    | _ => false)
  | .ret a, c, s => (match s with
    | .Return (some e) _ => okE G a false c e
    | _ => false)
  | .retN, _, s => (match s with
    | .Return none _ => true
    | _ => false)
  | .ifs d a b, c, s => (match s with
    | .If e x y _ => okE G d true c e && okSs G a c x && okSs G b c y
    | _ => false)
  | .for_ t it b, c, s => (match s with
    | .For tg iter body [] _ => okI G it c tg iter && !isSet iter && (!prI it || isTp t) && okT G t (List.range c.N.length) c tg && okSs G b c body
    | _ => false)
  | .whl n d b, c, s => (match s with
    | .While e body [] _ => okE G d true c e && okSs G b c body
    | _ => false)
  | .pass, _, s => (match s with
    | .Pass _ => true
    | _ => false)
  | .brk, _, s => (match s with
    | .Break _ => true
    | _ => false)
  | .cnt, _, s => (match s with
    | .Continue _ => true
    | _ => false)
  | .ndef i k js, c, s => (match s with
    | .FunctionDef name params body [] none [] scope none bnd pos => decide (bnd = name) && storeB c i name && mkB c G name params (.stmts body) scope pos k js && annB params
    | _ => false)
  | _, _, _ => false
def okSs (G : Gs) : Ss → Ct → List Stmt → Bool
  | .nil, _, xs => xs.isEmpty
  | .cons s ss, c, xs => (match xs with
    | x :: xs => okS G s c x && okSs G ss c xs
    | [] => false)
end
end Fx

set_option Elab.async false
set_option linter.all false
set_option maxRecDepth 100000
set_option maxHeartbeats 1000000
/-! Fx41: what the checker's tests of names tell. -/
namespace Fx
open PySem PySem.Spec PyProof.Rows L2 NdefX LamX
section
variable {Γ : Gc} {G : Gs} {k : Nat} {c : Ct} {X : Cx} {x y : Str} {i : Nat}
theorem isV_vis {o : Option NameKind} (h : isV o = true) : o = some .local ∨ o = some .cell ∨ o = some .free := by
  unfold isV at h
  split at h
  · exact .inl rfl
  · exact .inr (.inl rfl)
  · exact .inr (.inr rfl)
  · cases h
theorem isG_glob {o : Option NameKind} (h : isG o = true) : o = some .globalImplicit := by
  unfold isG at h
  split at h
  · rfl
  · cases h
theorem plainN_of (h : plainN x = true) : (x == ("__debug__" : Str)) = false ∧ (x == ("__classdict__" : Str)) = false ∧ x ≠ "__name__" := by
  unfold plainN at h
  simp only [Bool.and_eq_true, Bool.not_eq_true'] at h
  exact ⟨h.1.1, h.1.2, fun e => by rw [e] at h; exact absurd h.2 (by decide +kernel)⟩
theorem glB_of (C : Cn Γ k c X) (h : glB c x = true) : Gl X x ∧ (x == ("__debug__" : Str)) = false ∧ x ≠ "__name__" := by
  unfold glB at h
  rw [Bool.and_eq_true] at h
  refine ⟨?_, (plainN_of h.2).1, (plainN_of h.2).2.2⟩
  show X.env.scope.names.lookup x = _
  rw [C.hsc]
  exact isG_glob h.1
theorem nameB_of (C : Cn Γ k c X) (h : nameB c i x = true) : X.N[i]? = some x ∧ Vis X.env.scope x ∧ (x == ("__debug__" : Str)) = false ∧ (x == ("__classdict__" : Str)) = false := by
  unfold nameB at h
  simp only [Bool.and_eq_true, decide_eq_true_eq] at h
  refine ⟨by rw [C.hN]; exact h.1.1, ?_, (plainN_of h.2).1, (plainN_of h.2).2.1⟩
  rw [C.hsc]
  exact isV_vis h.1.2
theorem storeB_of (C : Cn Γ k c X) (h : storeB c i x = true) : Slot' X x i := by
  unfold storeB at h
  simp only [Bool.and_eq_true, decide_eq_true_eq] at h
  obtain ⟨h1, h2⟩ := h
  unfold isL at h2
  split at h2
  · rename_i e
    exact ⟨by rw [C.hN]; exact h1, by rw [C.hsc]; exact .inl e, .inr (by rw [C.hsc]; exact e)⟩
  · rename_i e
    exact ⟨by rw [C.hN]; exact h1, by rw [C.hsc]; exact .inr e, .inl (C.hfn x h2)⟩
  · cases h2
theorem bltB_of (K : GsOk Γ G) (C : Cn Γ k c X) {v : Value} (bv : bootBuiltins y = some v) (h : bltB G c x y = true) : x = y ∧ Blt X x v := by
  unfold bltB at h
  simp only [Bool.and_eq_true, decide_eq_true_eq] at h
  obtain ⟨⟨rfl, h2⟩, h3⟩ := h
  obtain ⟨g1, g2, g3⟩ := glB_of C h2
  exact ⟨rfl, g1, C.ok.g.free _ (K.fre _ h3), bv, g3, g2⟩
theorem cst_pe {d : PyData} {v : Const} {j : Nat} {pos : Pos} (h : cstB d v = true) : DE Γ X (.Constant v j pos) (fun _ => M.pure (.d d)) := by
  unfold cstB at h
  split at h
  · exact de_none
  · rw [eq_of_beq h]; exact de_bool
  · rw [of_decide_eq_true h]; exact de_int
  · simp only [Bool.and_eq_true, decide_eq_true_eq] at h
    rw [h.1.1]
    exact de_str h.1.2 h.2
  · cases h
theorem Cn.blk (C : Cn Γ k c X) {scope : Scope} (hs : scope.kind = .function) {s : Shared} {H : Hp} {cl : List (Str × Addr)} {A : Addr} {fp : List Addr} : Cn Γ k (subCt c scope) (X.blk s H scope (compEnvC scope cl A X.env) fp) where
  ok := ⟨⟨C.ok.g.fn, C.ok.g.glo, C.ok.g.glt, C.ok.g.free⟩, C.ok.calm, PassesOwn.never, C.ok.room, C.ok.guards, C.ok.nd⟩
  ctr := C.ctr
  hN := C.hN
  hsc := by show relS scope X.env.scope = relS scope c.sc; rw [C.hsc]
  hk := hs
  hfn := fun x h => h
  mks := fun nm e => nomatch e
theorem blkOk_of {N : List Str} {sc scope : Scope} {own : List (Str × Nat)} (h : blkOkB N sc scope own = true) : BlkOk N sc scope own := by
  unfold blkOkB at h
  simp only [Bool.and_eq_true, decide_eq_true_eq, List.all_eq_true, Bool.or_eq_true, Bool.not_eq_true', decide_eq_false_iff_not, Bool.or_eq_false_iff] at h
  obtain ⟨⟨⟨⟨h1, h2⟩, h3⟩, h4⟩, h5⟩ := h
  refine ⟨h1, h2, h3, fun y hy e => ?_, fun y hy e => ?_⟩
  · rcases h4 y hy with (h | h) | h
    · exact absurd e h
    · exact .inl h
    · exact .inr h
  · rcases h5 y hy with (h | h) | h
    · rcases e with e | e
      · exact absurd e h.1
      · exact absurd e h.2
    · exact .inl h
    · exact .inr h
theorem not_set {e : Expr} (h : isSet e = false) {env : PySem.Env} (x : Value) : foldedSetIterable e env x = pure x := by
  cases e <;> first | rfl | cases h
theorem isNo_of {a : E} (h : isNo a = true) : a = .no := by
  cases a <;> first | rfl | cases h
end
/-! ### flat targets -/
theorem flat_set {ε : Env} {i : Nat} {d : PyData} (h : flatE ε) : flatE (setE ε i (.d d)) := by
  intro j x e
  unfold setE at e
  by_cases z : j = i
  · subst z
    have hl : j < ε.length := by
      have := (List.getElem?_eq_some_iff.mp e).1
      rwa [List.length_set] at this
    rw [List.getElem?_set_self hl] at e
    cases e
    exact ⟨_, rfl, rfl⟩
  · rw [List.getElem?_set_ne (Ne.symm z)] at e
    exact h j x e
theorem bind_ok {α β : Type} {m : M α} {f : α → M β} {st st' : Sto} {b : β} (h : M.bind m f st = .ok b st') : ∃ a st1, m st = .ok a st1 ∧ f a st1 = .ok b st' := by
  unfold M.bind at h
  split at h
  · rename_i a s e
    exact ⟨a, s, e, h⟩
  · cases h
  · cases h
mutual
theorem flat_T {Φ : Tbl} : ∀ (t : T) (d : PyData) (ε : Env) (st : Sto) (ε' : Env) (st' : Sto), flatE ε → evT Φ t d ε st = .ok ε' st' → flatE ε'
  | .nm i, d, ε, st, ε', st', h, e => by
    rw [evT] at e
    cases e
    exact flat_set h
  | .tp ts, d, ε, st, ε', st', h, e => by
    cases d with
    | tuple xs =>
      rw [evT] at e
      by_cases z : xs.length = tsLen ts
      · rw [if_pos z] at e
        exact flat_Ts ts _ _ _ _ _ h e
      · rw [if_neg z] at e
        cases e
    | _ => (rw [evT] at e; cases e; all_goals (intros; contradiction))
  | .sb a i, d, ε, st, ε', st', h, e => by
    rw [evT] at e
    obtain ⟨_, _, _, e⟩ := bind_ok e
    obtain ⟨_, _, _, e⟩ := bind_ok e
    obtain ⟨_, _, _, e⟩ := bind_ok e
    obtain ⟨_, _, _, e⟩ := bind_ok e
    cases e
    exact h
  | .ds a i, d, ε, st, ε', st', h, e => by
    rw [evT] at e
    obtain ⟨_, _, _, e⟩ := bind_ok e
    obtain ⟨_, _, _, e⟩ := bind_ok e
    obtain ⟨_, _, _, e⟩ := bind_ok e
    obtain ⟨_, _, _, e⟩ := bind_ok e
    cases e
    exact h
theorem flat_Ts {Φ : Tbl} : ∀ (ts : Ts) (ds : List PyData) (ε : Env) (st : Sto) (ε' : Env) (st' : Sto), flatE ε → evTs Φ ts ds ε st = .ok ε' st' → flatE ε'
  | .nil, [], ε, st, ε', st', h, e => by
    rw [evTs] at e
    cases e
    exact h
  | .cons t ts, d :: ds, ε, st, ε', st', h, e => by
    rw [evTs] at e
    obtain ⟨ε1, st1, e1, e⟩ := bind_ok e
    exact flat_Ts ts _ _ _ _ _ (flat_T t _ _ _ _ _ h e1) e
  | .nil, _ :: _, ε, st, ε', st', h, e => by rw [evTs] at e; cases e; all_goals (intros; contradiction)
  | .cons _ _, [], ε, st, ε', st', h, e => by rw [evTs] at e; cases e; all_goals (intros; contradiction)
end
/-- a row of targets that takes just what is as long -/
def lenF (n : Nat) (Fu : List PyData → Env → M Env) : List PyData → Env → M Env := fun ds ε => if ds.length = n then Fu ds ε else M.bad
theorem lenF_ok {n : Nat} {Fu : List PyData → Env → M Env} : LenOk n (lenF n Fu) := fun ds ε st h => by
  unfold lenF
  rw [if_neg h]
  rfl
theorem DGs.len {Γ : Gc} {X : Cx} {vv : List Nat} {ts : List Expr} {Fu : List PyData → Env → M Env} {n : Nat} (h : DGs Γ X vv ts Fu) : DGs Γ X vv ts (lenF n Fu) := fun Wx tk => by
  refine ⟨fun pins s σ H vs us Q I r ⟨W, ε, st, ds, rel, env, hp, post⟩ => (h Wx tk).run pins s σ H vs us Q I r ⟨W, ε, st, ds, rel, env, hp, ?_⟩⟩
  unfold lenF at post
  by_cases z : ds.length = n
  · rw [if_pos z] at post; exact post
  · rw [if_neg z] at post; exact post.elim
theorem evT_tp {Φ : Tbl} {ts : Ts} : (evT Φ (.tp ts)) = tpF (lenF (tsLen ts) (evTs Φ ts)) := by
  funext d ε
  cases d with
  | tuple xs => rw [evT]; rfl
  | _ => (rw [evT]; rfl; all_goals (intros; contradiction))
end Fx

set_option Elab.async false
set_option linter.all false
set_option maxRecDepth 100000
set_option maxHeartbeats 4000000
/-! Fx42: what the checker takes is so: expressions. -/
namespace Fx
open PySem PySem.Spec PyProof.Rows L2 NdefX LamX
section
variable {Γ : Gc} {G : Gs} {k : Nat} {c : Ct} {X : Cx}
theorem DE.to {e : Expr} {F F' : Env → M Val} (h : DE Γ X e F) (q : ∀ ε, F' ε = F ε) : DE Γ X e F' := by
  have : F' = F := funext q
  rw [this]; exact h
theorem DT.to {e : Expr} {F F' : Env → M Bool} (h : DT Γ X e F) (q : ∀ ε, F' ε = F ε) : DT Γ X e F' := by
  have : F' = F := funext q
  rw [this]; exact h
theorem DI.to {pr : Bool} {tg e : Expr} {F F' : Env → M (Option Gd × List PyData)} (h : DI Γ X pr tg e F) (q : ∀ ε, F' ε = F ε) : DI Γ X pr tg e F' := by
  have : F' = F := funext q
  rw [this]; exact h
/-- a text of ours is sound for an expression: as a value, as a test -/
def Sd (Γ : Gc) (k : Nat) (X : Cx) (a : E) (t : Bool) (e : Expr) : Prop := match t with
  | false => DE Γ X e (evE (tbl Γ.p k) a)
  | true => DT Γ X e (tst (evE (tbl Γ.p k) a)) ∧ ((∃ op xs p, e = .BoolOp op xs p) → DW Γ X e (tst (evE (tbl Γ.p k) a)))
theorem sd_val {a : E} {t : Bool} {e : Expr} (hp : plainT e = true) (h : DE Γ X e (evE (tbl Γ.p k) a)) : Sd Γ k X a t e := by
  cases t with
  | false => exact h
  | true =>
    refine ⟨dt_val h ?_, ?_⟩
    · intro whole
      cases e <;> first
        | rfl
        | (cases hp; done)
        | (rename_i op _ _; cases op <;> first | rfl | (cases hp; done))
    · rintro ⟨op, xs, p, rfl⟩
      cases hp
theorem sd_cmp {a : E} {t : Bool} {x : Expr} {os : List CmpOp} {ys : List Expr} {p : Pos} (h : DE Γ X (.Compare x os ys p) (evE (tbl Γ.p k) a)) (h2 : DT Γ X (.Compare x os ys p) (tst (evE (tbl Γ.p k) a))) : Sd Γ k X a t (.Compare x os ys p) := by
  cases t with
  | false => exact h
  | true => exact ⟨h2, fun ⟨_, _, _, e⟩ => by cases e⟩
theorem dt_bad {e : Expr} : DT Γ X e (tst fun _ => M.bad) := fun Wx tk => ⟨fun pins s σ H Q I ⟨W, ε, st, rel, env, post⟩ => post.elim⟩
theorem dw_bad {e : Expr} : DW Γ X e (tst fun _ => M.bad) := fun Wx tk => ⟨fun wh pins s σ H Q I ⟨W, ε, st, rel, env, post⟩ => post.elim⟩
theorem sd_no {t : Bool} {e : Expr} : Sd Γ k X .no t e := by
  have q : evE (tbl Γ.p k) .no = fun _ => M.bad := by funext ε; rw [evE]
  unfold Sd
  cases t with
  | false => dsimp only; rw [q]; exact de_bad
  | true => dsimp only; rw [q]; exact ⟨dt_bad, fun _ => dw_bad⟩
theorem tbl_gl {p : Prog} {k : Nat} : (tbl p k).gl = p.gl := by cases k <;> rfl
theorem tbl_gt {p : Prog} {k : Nat} : (tbl p k).gt = p.gt := by cases k <;> rfl
theorem Cn.rm (C : Cn Γ k c X) : Room (2 * k) X.A := C.ok.room.mono (Nat.le_succ _)
theorem bt_len : bootBuiltins "len" = some (.builtin "len") := by decide +kernel
theorem bt_max : bootBuiltins "max" = some (.builtin "max") := by decide +kernel
theorem bt_min : bootBuiltins "min" = some (.builtin "min") := by decide +kernel
theorem bt_sum : bootBuiltins "sum" = some (.builtin "sum") := by decide +kernel
theorem bt_all : bootBuiltins "all" = some (.builtin "all") := by decide +kernel
theorem bt_any : bootBuiltins "any" = some (.builtin "any") := by decide +kernel
theorem bt_abs : bootBuiltins "abs" = some (.builtin "abs") := by decide +kernel
theorem bt_sorted : bootBuiltins "sorted" = some (.builtin "sorted") := by decide +kernel
theorem bt_divmod : bootBuiltins "divmod" = some (.builtin "divmod") := by decide +kernel
theorem bt_repr : bootBuiltins "repr" = some (.builtin "repr") := by decide +kernel
theorem bt_isinstance : bootBuiltins "isinstance" = some (.builtin "isinstance") := by decide +kernel
theorem bt_enumerate : bootBuiltins "enumerate" = some (.type "enumerate") := by decide +kernel
theorem bt_zip : bootBuiltins "zip" = some (.type "zip") := by decide +kernel
theorem bt_int : bootBuiltins "int" = some (.type "int") := by decide +kernel
theorem bt_tuple : bootBuiltins "tuple" = some (.type "tuple") := by decide +kernel
theorem bt_list : bootBuiltins "list" = some (.type "list") := by decide +kernel
theorem bt_set : bootBuiltins "set" = some (.type "set") := by decide +kernel
theorem bt_range : bootBuiltins "range" = some (.type "range") := by decide +kernel
theorem bi_call (K : GsOk Γ G) (C : Cn Γ k c X) {b : Bi} {ob : Bool} {f : Str} {e : Expr} {es : List Expr} {p pos : Pos} {Fs : Env → M (List Val)} (hb : biOk b = true) (h : bltB G c f (biN b) = true) (hs : DA Γ X (e :: es) Fs) (hu : unstars (e :: es) = true) : DE Γ X (.Call (.Name f p) (e :: es) [] pos) (fun ε => M.bind (Fs ε) (biV b ob)) := by
  have hc := C.ok.calm
  cases b with
  | len => obtain ⟨rfl, b1⟩ := bltB_of K C bt_len h; exact de_bi cr_len b1 hs hu
  | max2 => obtain ⟨rfl, b1⟩ := bltB_of K C bt_max h; exact de_bi (cr_max2 hc) b1 hs hu
  | min2 => obtain ⟨rfl, b1⟩ := bltB_of K C bt_min h; exact de_bi (cr_min2 hc) b1 hs hu
  | max => obtain ⟨rfl, b1⟩ := bltB_of K C bt_max h; exact de_bi (cr_maxF hc) b1 hs hu
  | min => obtain ⟨rfl, b1⟩ := bltB_of K C bt_min h; exact de_bi (cr_minF hc) b1 hs hu
  | sum => obtain ⟨rfl, b1⟩ := bltB_of K C bt_sum h; exact de_bi (cr_sumF hc) b1 hs hu
  | all => obtain ⟨rfl, b1⟩ := bltB_of K C bt_all h; exact de_bi (cr_allF hc) b1 hs hu
  | any => obtain ⟨rfl, b1⟩ := bltB_of K C bt_any h; exact de_bi (cr_anyF hc) b1 hs hu
  | abs => obtain ⟨rfl, b1⟩ := bltB_of K C bt_abs h; exact de_bi cr_abs b1 hs hu
  | sorted => obtain ⟨rfl, b1⟩ := bltB_of K C bt_sorted h; exact de_bi (cr_sortedF C.ok.room) b1 hs hu
  | divmod => obtain ⟨rfl, b1⟩ := bltB_of K C bt_divmod h; exact de_bi cr_divmod b1 hs hu
  | int => obtain ⟨rfl, b1⟩ := bltB_of K C bt_int h; exact de_bt cr_int b1 hs hu
  | tuple => obtain ⟨rfl, b1⟩ := bltB_of K C bt_tuple h; exact de_bt cr_tuple b1 hs hu
  | list => obtain ⟨rfl, b1⟩ := bltB_of K C bt_list h; exact de_bt cr_list b1 hs hu
  | lenD => cases hb
  | repr => cases hb
  | str => cases hb
  | dictZip => cases hb
  | sortedSet => cases hb
  | lenSet => cases hb
  | maxVals => cases hb
  | minVals => cases hb
theorem rcv_ok (C : Cn Γ k c X) {m : Me} (h : meOk m = true) : RcvOk Γ X m (meN m) := by
  cases m <;> first
    | (cases h; done)
    | exact rcv_index C.ok.room
    | exact rcv_count C.ok.room
    | exact rcv_get C.ok.room
    | exact rcv_append
theorem boot_tyN (t : Ty) : bootBuiltins (Str.ofString (tyN t)) = some (.type (tyN t)) := boot_ty t
theorem hbase_of {x : Expr} {nm : Str} {env : PySem.Env} (h : okBase x = true) : attributeBase x nm env (eval x env) = eval x env := base_ok h nm env _
/-- a made function's text -/
theorem mkF_of (K : GsOk Γ G) (C : Cn Γ k c X) {name : Str} {params : Arguments} {body : FuncBody} {scope : Scope} {pos : Pos} {kk : Nat} {js : List Nat} (h : mkB c G name params body scope pos kk js = true) :
    ∃ P nm ci, MkX Γ X P nm ∧ MkF Γ X nm name params body scope pos kk js ci ∧ params.defaults = [] ∧ params.kw_defaults = [] := by
  unfold mkB at h
  split at h
  · rename_i nm ci e1 e2
    simp only [Bool.and_eq_true, decide_eq_true_eq, List.all_eq_true, Bool.or_eq_true, Bool.not_eq_true', decide_eq_false_iff_not, List.isEmpty_iff] at h
    obtain ⟨⟨⟨⟨⟨⟨⟨⟨h1, h2⟩, h3⟩, h4⟩, h5⟩, h6⟩, h7⟩, h8⟩, h9⟩ := h
    obtain ⟨hq, P, mk⟩ := C.mks nm e1
    refine ⟨P, nm, ci, mk, ⟨K.cls _ _ e2, eqArs_eq (eqE_eq 5) _ _ h1, eqB_eq h2, h3, by rw [hq]; exact h4, fun y hy e => ?_, h6, by rw [C.hN]; exact h7⟩, h8, h9⟩
    rw [C.hsc]
    rcases h5 y hy with (h | h) | h
    · exact absurd e h
    · exact .inl h
    · exact .inr h
  · cases h
end
section
variable {Γ : Gc} {G : Gs} {k : Nat}
set_option maxHeartbeats 0 in
mutual
theorem sE (K : GsOk Γ G) : ∀ (a : E) (t : Bool) (c : Ct) (X : Cx) (e : Expr), Cn Γ k c X → okE G a t c e = true → Sd Γ k X a t e
  | .no, t, c, X, e, C, h => sd_no
  | .var i, t, c, X, e, C, h => by
    unfold okE at h
    split at h
    · obtain ⟨h1, h2, h3, h4⟩ := nameB_of C h
      exact sd_val rfl ((de_var h1 h2 h3 h4).to fun ε => by rw [evE]; try rfl)
    · cases h
  | .glob y, t, c, X, e, C, h => by
    unfold okE at h
    split at h
    · simp only [Bool.and_eq_true, decide_eq_true_eq] at h
      obtain ⟨⟨rfl, h2⟩, h3⟩ := h
      obtain ⟨d, hd⟩ := K.gl _ h3
      obtain ⟨g1, g2, _⟩ := glB_of C h2
      exact sd_val rfl ((de_glob C.ok.g g1 hd g2).to fun ε => by rw [evE, tbl_gl, hd])
    · cases h
  | .cst d, t, c, X, e, C, h => by
    unfold okE at h
    split at h
    · exact sd_val rfl ((cst_pe h).to fun ε => by rw [evE]; try rfl)
    · cases h
  | .neg a, t, c, X, e, C, h => by
    unfold okE at h
    split at h
    · exact sd_val rfl ((de_neg (sE K a false c X _ C h)).to fun ε => by rw [evE]; try rfl)
    · cases h
  | .notv a, t, c, X, e, C, h => by
    unfold okE at h
    split at h
    · have q : evE (tbl Γ.p k) (.notv a) = notF (evE (tbl Γ.p k) a) := by funext ε; rw [evE]; rfl
      have ih := sE K a t c X _ C h
      unfold Sd
      cases t with
      | false => dsimp only; rw [q]; exact de_not ih
      | true => dsimp only; rw [q]; exact ⟨dt_not ih.1, fun ⟨_, _, _, e⟩ => by cases e⟩
    · cases h
  | .bin op a b, t, c, X, e, C, h => by
    unfold okE at h
    split at h
    · simp only [Bool.and_eq_true, decide_eq_true_eq] at h
      obtain ⟨⟨rfl, h2⟩, h3⟩ := h
      exact sd_val rfl ((de_bin (sE K a false c X _ C h2) (sE K b false c X _ C h3)).to fun ε => by rw [evE]; try rfl)
    · cases h
  | .catO a b, t, c, X, e, C, h => by
    unfold okE at h
    split at h
    · rw [Bool.and_eq_true] at h
      exact sd_val rfl ((de_catO (sE K a false c X _ C h.1) (sE K b false c X _ C h.2)).to fun ε => by rw [evE]; rfl)
    · cases h
  | .mulO a b, t, c, X, e, C, h => by
    unfold okE at h
    split at h
    · rw [Bool.and_eq_true] at h
      exact sd_val rfl ((de_mulO (sE K a false c X _ C h.1) (sE K b false c X _ C h.2)).to fun ε => by rw [evE]; rfl)
    · cases h
  | .cmp op a b, t, c, X, e, C, h => by
    unfold okE at h
    split at h
    · rename_i x o y p
      simp only [Bool.and_eq_true, decide_eq_true_eq, Bool.not_eq_true'] at h
      obtain ⟨⟨⟨rfl, h1⟩, h2⟩, h3⟩ := h
      have q : ∀ ε, evE (tbl Γ.p k) (.cmp o a b) ε = M.bind (evE (tbl Γ.p k) a ε) fun v => M.bind (evE (tbl Γ.p k) b ε) fun w => M.bind (inCmp o v w) fun c => bool c := fun ε => by rw [evE]; try rfl
      exact sd_cmp ((de_cmp C.ok.room (sE K a false c X _ C h2) (sE K b false c X _ C h3) h1).to q) ((dt_cmp C.ok.room (sE K a false c X _ C h2) (sE K b false c X _ C h3) h1).to fun ε => by unfold tst; rw [q])
    · cases h
  | .din neg a d, t, c, X, e, C, h => by
    unfold okE at h
    split at h
    · simp only [Bool.and_eq_true, decide_eq_true_eq, Bool.not_eq_true'] at h
      obtain ⟨⟨⟨rfl, h1⟩, h2⟩, h3⟩ := h
      have q : ∀ ε, evE (tbl Γ.p k) (.din neg a d) ε = M.bind (evE (tbl Γ.p k) a ε) fun v => M.bind (evE (tbl Γ.p k) d ε) fun w => dinF neg v w := fun ε => by rw [evE]; rfl
      cases neg with
      | true => exact sd_cmp ((de_dni C.ok.room (sE K a false c X _ C h2) (sE K d false c X _ C h3) h1).to q) ((dt_dni C.ok.room (sE K a false c X _ C h2) (sE K d false c X _ C h3) h1).to fun ε => by unfold tst; rw [q])
      | false => exact sd_cmp ((de_din C.ok.room (sE K a false c X _ C h2) (sE K d false c X _ C h3) h1).to q) ((dt_din C.ok.room (sE K a false c X _ C h2) (sE K d false c X _ C h3) h1).to fun ε => by unfold tst; rw [q])
    · cases h
  | .ing neg a n, t, c, X, e, C, h => by
    unfold okE at h
    split at h
    · simp only [Bool.and_eq_true, decide_eq_true_eq, Bool.not_eq_true'] at h
      obtain ⟨⟨⟨⟨rfl, rfl⟩, h1⟩, h2⟩, h3⟩ := h
      obtain ⟨xs, hx⟩ := K.gt _ h2
      obtain ⟨g1, g2, _⟩ := glB_of C h1
      have q : ∀ ε, evE (tbl Γ.p k) (.ing neg a _) ε = M.bind (evE (tbl Γ.p k) a ε) fun v => ingF neg v xs := fun ε => by rw [evE, tbl_gt, hx]; rfl
      cases neg with
      | true => exact sd_cmp ((de_ni C.ok.g C.ok.room hx g1 g2 (sE K a false c X _ C h3)).to q) ((dt_ni C.ok.g C.ok.room hx g1 g2 (sE K a false c X _ C h3)).to fun ε => by unfold tst; rw [q])
      | false => exact sd_cmp ((de_ing C.ok.g C.ok.room hx g1 g2 (sE K a false c X _ C h3)).to q) ((dt_ing C.ok.g C.ok.room hx g1 g2 (sE K a false c X _ C h3)).to fun ε => by unfold tst; rw [q])
    · cases h
  | .rep neg a b, t, c, X, e, C, h => by
    unfold okE at h
    split at h
    · simp only [Bool.and_eq_true, decide_eq_true_eq, Bool.not_eq_true'] at h
      obtain ⟨⟨⟨⟨⟨⟨rfl, h1⟩, h2⟩, h3⟩, h4⟩, h5⟩, h6⟩ := h
      obtain ⟨rfl, b1⟩ := bltB_of K C bt_repr h1
      obtain ⟨rfl, b2⟩ := bltB_of K C bt_repr h2
      have q : ∀ ε, evE (tbl Γ.p k) (.rep neg a b) ε = repF neg (evE (tbl Γ.p k) a) (evE (tbl Γ.p k) b) ε := fun ε => by rw [evE]; rfl
      cases neg with
      | true => exact sd_cmp ((de_repN C.ok.room C.ok.guards b1 (sE K a false c X _ C h5) h3 (sE K b false c X _ C h6) h4).to q) ((dt_repN C.ok.room C.ok.guards b1 (sE K a false c X _ C h5) h3 (sE K b false c X _ C h6) h4).to fun ε => by unfold tst; rw [q])
      | false => exact sd_cmp ((de_repE C.ok.room C.ok.guards b1 (sE K a false c X _ C h5) h3 (sE K b false c X _ C h6) h4).to q) ((dt_repE C.ok.room C.ok.guards b1 (sE K a false c X _ C h5) h3 (sE K b false c X _ C h6) h4).to fun ε => by unfold tst; rw [q])
    · cases h
  | .chain o1 o2 a b d, t, c, X, e, C, h => by
    unfold okE at h
    split at h
    · rename_i x p1 p2 y z p
      simp only [Bool.and_eq_true, decide_eq_true_eq, Bool.not_eq_true'] at h
      obtain ⟨⟨⟨⟨⟨rfl, rfl⟩, h1⟩, h2⟩, h3⟩, h4⟩ := h
      have q : ∀ ε, evE (tbl Γ.p k) (.chain p1 p2 a b d) ε = chF p1 p2 (evE (tbl Γ.p k) a) (evE (tbl Γ.p k) b) (evE (tbl Γ.p k) d) ε := fun ε => by rw [evE]; rfl
      exact sd_cmp ((de_chain C.ok.room (sE K a false c X _ C h2) (sE K b false c X _ C h3) (sE K d false c X _ C h4) h1).to q) ((dt_chain C.ok.room (sE K a false c X _ C h2) (sE K b false c X _ C h3) (sE K d false c X _ C h4) h1).to fun ε => by unfold tst; rw [q])
    · cases h
  | .andv a b, t, c, X, e, C, h => by
    have q : evE (tbl Γ.p k) (.andv a b) = andF (evE (tbl Γ.p k) a) (evE (tbl Γ.p k) b) := by funext ε; rw [evE]; rfl
    unfold okE at h
    unfold Sd
    split at h
    · rw [Bool.and_eq_true] at h
      have i1 := sE K a t c X _ C h.1
      have i2 := sE K b t c X _ C h.2
      cases t with
      | false => dsimp only; rw [q]; exact de_and i1 (de_one i2)
      | true => dsimp only; rw [q]; exact ⟨(dw_and i1.1 (dw_and1 i2.1)).dt, fun _ => dw_and i1.1 (dw_and1 i2.1)⟩
    · rw [Bool.and_eq_true] at h
      have i1 := sE K a t c X _ C h.1
      have i2 := sE K b t c X _ C h.2
      cases t with
      | false => dsimp only; rw [q]; exact de_and i1 i2
      | true => dsimp only; rw [q]; exact ⟨(dw_and i1.1 (i2.2 ⟨_, _, _, rfl⟩)).dt, fun _ => dw_and i1.1 (i2.2 ⟨_, _, _, rfl⟩)⟩
    · cases h
  | .orv a b, t, c, X, e, C, h => by
    have q : evE (tbl Γ.p k) (.orv a b) = orF (evE (tbl Γ.p k) a) (evE (tbl Γ.p k) b) := by funext ε; rw [evE]; rfl
    unfold okE at h
    unfold Sd
    split at h
    · rw [Bool.and_eq_true] at h
      have i1 := sE K a t c X _ C h.1
      have i2 := sE K b t c X _ C h.2
      cases t with
      | false => dsimp only; rw [q]; exact de_or i1 (de_one i2)
      | true => dsimp only; rw [q]; exact ⟨(dw_or i1.1 (dw_or1 i2.1)).dt, fun _ => dw_or i1.1 (dw_or1 i2.1)⟩
    · rw [Bool.and_eq_true] at h
      have i1 := sE K a t c X _ C h.1
      have i2 := sE K b t c X _ C h.2
      cases t with
      | false => dsimp only; rw [q]; exact de_or i1 i2
      | true => dsimp only; rw [q]; exact ⟨(dw_or i1.1 (i2.2 ⟨_, _, _, rfl⟩)).dt, fun _ => dw_or i1.1 (i2.2 ⟨_, _, _, rfl⟩)⟩
    · cases h
  | .ife d a b, t, c, X, e, C, h => by
    unfold okE at h
    split at h
    · simp only [Bool.and_eq_true, Bool.not_eq_true'] at h
      obtain ⟨⟨⟨rfl, h1⟩, h2⟩, h3⟩ := h
      exact (de_if (sE K d true c X _ C h1).1 (sE K a false c X _ C h2) (sE K b false c X _ C h3)).to fun ε => by rw [evE]; rfl
    · cases h
  | .tup es, t, c, X, e, C, h => by
    unfold okE at h
    split at h
    · exact sd_val rfl ((de_tup (sEs K es c X _ C h)).to fun ε => by rw [evE]; try rfl)
    · cases h
  | .lst ob es, t, c, X, e, C, h => by
    unfold okE at h
    split at h
    · exact sd_val rfl ((de_lst (sEs K es c X _ C h)).to fun ε => by rw [evE]; try rfl)
    · cases h
  | .dnew tk, t, c, X, e, C, h => by
    unfold okE at h
    split at h
    · cases tk with
      | true => exact sd_val rfl (de_dnewT.to fun ε => by rw [evE]; try rfl)
      | false => exact sd_val rfl (de_dnewK.to fun ε => by rw [evE]; try rfl)
    · cases h
  | .sub a i, t, c, X, e, C, h => by
    unfold okE at h
    split at h
    · simp only [Bool.and_eq_true, Bool.not_eq_true'] at h
      exact sd_val rfl ((de_sub (sE K a false c X _ C h.1.2) (sE K i false c X _ C h.2) h.1.1).to fun ε => by rw [evE]; rfl)
    · cases h
  | .dsub a i, t, c, X, e, C, h => by
    unfold okE at h
    split at h
    · simp only [Bool.and_eq_true, Bool.not_eq_true'] at h
      exact sd_val rfl ((de_dsub C.ok.room (sE K a false c X _ C h.1.2) (sE K i false c X _ C h.2) h.1.1).to fun ε => by rw [evE]; try rfl)
    · cases h
  | .slc a lo hi, t, c, X, e, C, h => by
    unfold okE at h
    split at h
    · rename_i x l hh p2 p
      simp only [Bool.and_eq_true] at h
      have hl : DO Γ X l (evO (tbl Γ.p k) lo) := by
        cases l with
        | none =>
          have z : lo = .no := isNo_of (by simpa using h.1.2)
          rw [z]
          have q : evO (tbl Γ.p k) .no = fun _ => M.pure none := by funext ε; rw [evO]
          rw [q]
          exact do_none
        | some y =>
          have h1 : isNo lo = false ∧ okE G lo false c y = true := by simpa using h.1.2
          have q : evO (tbl Γ.p k) lo = fun ε => M.bind (evE (tbl Γ.p k) lo ε) fun v => (match v with
            | .d (.int i) => M.pure (some i)
            | _ => M.bad) := by
            funext ε
            rw [evO]
            all_goals first | rfl | (intro z; rw [z] at h1; cases h1.1)
          rw [q]
          exact do_some (sE K lo false c X _ C h1.2)
      have hi' : DO Γ X hh (evO (tbl Γ.p k) hi) := by
        cases hh with
        | none =>
          have z : hi = .no := isNo_of (by simpa using h.2)
          rw [z]
          have q : evO (tbl Γ.p k) .no = fun _ => M.pure none := by funext ε; rw [evO]
          rw [q]
          exact do_none
        | some y =>
          have h1 : isNo hi = false ∧ okE G hi false c y = true := by simpa using h.2
          have q : evO (tbl Γ.p k) hi = fun ε => M.bind (evE (tbl Γ.p k) hi ε) fun v => (match v with
            | .d (.int i) => M.pure (some i)
            | _ => M.bad) := by
            funext ε
            rw [evO]
            all_goals first | rfl | (intro z; rw [z] at h1; cases h1.1)
          rw [q]
          exact do_some (sE K hi false c X _ C h1.2)
      exact sd_val rfl ((de_slc (sE K a false c X _ C h.1.1) hl hi').to fun ε => by rw [evE]; try rfl)
    · cases h
  | .rev a, t, c, X, e, C, h => by
    unfold okE at h
    split at h
    · simp only [Bool.and_eq_true, decide_eq_true_eq] at h
      obtain ⟨rfl, h⟩ := h
      exact sd_val rfl ((de_rev (sE K a false c X _ C h)).to fun ε => by rw [evE]; try rfl)
    · cases h
  | .isi a ty, t, c, X, e, C, h => by
    unfold okE at h
    split at h
    · simp only [Bool.and_eq_true] at h
      obtain ⟨rfl, b1⟩ := bltB_of K C bt_isinstance h.1.1.1
      obtain ⟨rfl, b2⟩ := bltB_of K C (boot_ty ty) h.1.1.2
      exact sd_val rfl ((de_isi b1 b2 (sE K a false c X _ C h.2) h.1.2).to fun ε => by rw [evE]; try rfl)
    · cases h
  | .bi b ob es, t, c, X, e, C, h => by
    unfold okE at h
    split at h
    · rename_i a
      split at h
      · simp only [Bool.and_eq_true] at h
        obtain ⟨rfl, b1⟩ := bltB_of K C bt_sorted h.1.1.1
        obtain ⟨rfl, b2⟩ := bltB_of K C bt_set h.1.1.2
        refine sd_val rfl ((de_sset (ob := ob) C.ok.calm b1 b2 (sE K a false c X _ C h.2) h.1.2).to fun ε => ?_)
        rw [evE, evEs, evEs, M.bind_assoc]
        rfl
      · cases h
    · rename_i a
      split at h
      · simp only [Bool.and_eq_true, decide_eq_true_eq] at h
        obtain ⟨⟨⟨⟨h1, rfl⟩, h3⟩, h4⟩, h5⟩ := h
        obtain ⟨rfl, b1⟩ := bltB_of K C bt_max h1
        refine sd_val rfl ((de_maxVals (ob := ob) C.ok.calm b1 (sE K a false c X _ C h5) (hbase_of h4) h3).to fun ε => ?_)
        rw [evE, evEs, evEs, M.bind_assoc]
        rfl
      · cases h
    · split at h
      · simp only [Bool.and_eq_true] at h
        exact sd_val rfl ((bi_call (ob := ob) K C h.1.1.1 h.1.1.2 (sEs K es c X _ C h.2) h.1.2).to fun ε => by rw [evE]; try rfl)
      · cases h
  | .me m a es, t, c, X, e, C, h => by
    unfold okE at h
    split at h
    · simp only [Bool.and_eq_true, decide_eq_true_eq] at h
      obtain ⟨⟨⟨⟨⟨⟨⟨h1, rfl⟩, h3⟩, h4⟩, h5⟩, h6⟩, h7⟩, h8⟩ := h
      exact sd_val rfl ((de_me (rcv_ok C h1) (sE K a false c X _ C h7) (sEs K es c X _ C h8) h3 h4 h5 h6).to fun ε => by rw [evE]; try rfl)
    · cases h
  | .call f es pm, t, c, X, e, C, h => by
    unfold okE at h
    split at h
    · simp only [Bool.and_eq_true, decide_eq_true_eq] at h
      obtain ⟨⟨rfl, h1⟩, h⟩ := h
      obtain ⟨g1, g2, _⟩ := glB_of C h1
      split at h
      · rename_i ps hps
        obtain ⟨A, fi, ha, hf, rfl⟩ := K.fps _ _ hps
        split at h
        · rw [Bool.and_eq_true, List.isEmpty_iff] at h
          obtain ⟨rfl, h⟩ := h
          refine sd_val rfl ((de_call0 C.ctr C.rm C.ok.guards C.ok.g ha hf g1 g2).to fun ε => ?_)
          have hn : es = .nil := by
            cases es with
            | nil => rfl
            | cons a es => unfold okEs at h; cases h
          subst hn
          rw [evE, evEs]
          rfl
        · simp only [Bool.and_eq_true, List.isEmpty_iff] at h
          obtain ⟨⟨rfl, h2⟩, h3⟩ := h
          refine sd_val rfl ((de_call C.ctr C.rm C.ok.guards C.ok.g ha hf g1 g2 (sEs K es c X _ C h3) (star_cons ?_) (star_none ?_)).to fun ε => by rw [evE]; try rfl)
          · unfold unstars at h2
            rw [List.all_cons, Bool.and_eq_true] at h2
            exact h2.1
          · unfold unstars at h2 ⊢
            rw [List.all_cons, Bool.and_eq_true] at h2
            exact h2.2
        · simp only [Bool.and_eq_true, decide_eq_true_eq, Bool.not_eq_true', List.isEmpty_eq_false_iff] at h
          obtain ⟨⟨⟨h2, h3⟩, h4⟩, h5⟩ := h
          exact sd_val rfl ((de_callK0 C.ctr C.rm C.ok.guards C.ok.g ha hf g1 g2 (sKs K es c X _ C h5) h3 h4 h2).to fun ε => by rw [evE]; try rfl)
        · cases h
      · cases h
    · cases h
  | .callv i es, t, c, X, e, C, h => by
    unfold okE at h
    split at h
    · simp only [Bool.and_eq_true] at h
      obtain ⟨h1, h2, h3, h4⟩ := nameB_of C h.1.1
      have h5 := h.1.2
      unfold unstars at h5
      rw [List.all_cons, Bool.and_eq_true] at h5
      exact sd_val rfl ((de_callv C.ctr C.rm C.ok.guards C.ok.g K.all h1 h2 h3 h4 (sEs K es c X _ C h.2) (star_cons h5.1) (star_none h5.2)).to fun ε => by rw [evE]; try rfl)
    · cases h
  | .comp ob own cs a, t, c, X, e, C, h => by
    unfold okE at h
    split at h
    · simp only [Bool.and_eq_true, decide_eq_true_eq] at h
      obtain ⟨⟨⟨h1, h2⟩, h3⟩, h4⟩ := h
      have bo := blkOk_of h2
      obtain ⟨pr, tg, iter, ifs, Fi, Ft, Fc, rfl, hi, hs, hb, q⟩ := sC K cs own c X _ _ C bo.kind h3
      refine sd_val rfl ((de_lc (ob := ob) C.ok.calm C.ok.nd hi (by rw [C.hN, C.hsc]; exact bo) h1 hb (fun s H A cl fp => sE K a false (subCt c _) _ _ (C.blk bo.kind) h4) (fun x => not_set hs x)).to fun ε => ?_)
      rw [evE, q]
      rfl
    · cases h
  | .dcomp tk own cs a b, t, c, X, e, C, h => by
    unfold okE at h
    split at h
    · simp only [Bool.and_eq_true, decide_eq_true_eq, Bool.not_eq_true'] at h
      obtain ⟨⟨⟨⟨⟨rfl, h1⟩, h2⟩, h3⟩, h4⟩, h5⟩ := h
      have bo := blkOk_of h2
      obtain ⟨pr, tg, iter, ifs, Fi, Ft, Fc, rfl, hi, hs, hb, q⟩ := sC K cs own c X _ _ C bo.kind h3
      refine sd_val rfl ((de_dc C.ok.calm C.ok.nd hi (by rw [C.hN, C.hsc]; exact bo) h1 hb (fun s H A cl fp => sE K a false (subCt c _) _ _ (C.blk bo.kind) h4) (fun s H A cl fp => sE K b false (subCt c _) _ _ (C.blk bo.kind) h5) (fun x => not_set hs x)).to fun ε => ?_)
      rw [evE, q]
      rfl
    · cases h
  | .clo kk js, t, c, X, e, C, h => by
    unfold okE at h
    split at h
    · obtain ⟨P, nm, ci, mk, m, hd, hk⟩ := mkF_of K C h
      refine sd_val rfl ((de_clo mk m ?_).to fun ε => by rw [evE]; try rfl)
      rw [defaultsOf_eq, hd, hk]
      rfl
    · cases h
  | .fn f, t, c, X, e, C, h => by
    unfold okE at h
    split at h
    · simp only [Bool.and_eq_true, decide_eq_true_eq] at h
      obtain ⟨⟨rfl, h1⟩, h2⟩ := h
      obtain ⟨ps, hps⟩ := Option.isSome_iff_exists.mp h2
      obtain ⟨A, fi, ha, hf, rfl⟩ := K.fps _ _ hps
      obtain ⟨g1, g2, _⟩ := glB_of C h1
      exact sd_val rfl ((de_fn C.ok.g g1 ha g2).to fun ε => by rw [evE]; try rfl)
    · cases h
  | .frz a, t, c, X, e, C, h => by
    unfold okE at h
    rw [Bool.and_eq_true, Bool.not_eq_true'] at h
    obtain ⟨rfl, h⟩ := h
    exact (de_frz (sE K a false c X _ C h)).to fun ε => by rw [evE]; try rfl
  | .tupS es, t, c, X, e, C, h => by unfold okE at h; cases h
  | .lstS _ es, t, c, X, e, C, h => by unfold okE at h; cases h
  | .star a, t, c, X, e, C, h => by unfold okE at h; cases h
  | .dstar _ _ _, t, c, X, e, C, h => by unfold okE at h; cases h
  | .sortK ob a f, t, c, X, e, C, h => by
    unfold okE at h
    split at h
    · simp only [Bool.and_eq_true, decide_eq_true_eq] at h
      obtain ⟨⟨⟨⟨h1, rfl⟩, h3⟩, h4⟩, h5⟩ := h
      obtain ⟨rfl, b1⟩ := bltB_of K C bt_sorted h1
      exact sd_val rfl ((de_sortK C.ctr C.ok.room C.ok.guards K.all b1 (sE K a false c X _ C h4) h3 (sE K f false c X _ C h5)).to fun ε => by rw [evE]; try rfl)
    · cases h
  | .sortR ob a f, t, c, X, e, C, h => by
    unfold okE at h
    split at h
    · simp only [Bool.and_eq_true, decide_eq_true_eq] at h
      obtain ⟨⟨⟨⟨⟨h1, h2⟩, rfl⟩, h3⟩, h4⟩, h5⟩ := h
      obtain ⟨rfl, b1⟩ := bltB_of K C bt_sorted h1
      obtain ⟨rfl, b2⟩ := bltB_of K C bt_range h2
      exact sd_val rfl ((de_sortR C.ctr C.ok.calm C.ok.room C.ok.guards K.all b1 b2 (sE K a false c X _ C h4) h3 (sE K f false c X _ C h5)).to fun ε => by rw [evE]; try rfl)
    · cases h
theorem sEs (K : GsOk Γ G) : ∀ (es : Es) (c : Ct) (X : Cx) (xs : List Expr), Cn Γ k c X → okEs G es c xs = true → DA Γ X xs (evEs (tbl Γ.p k) es)
  | .nil, c, X, xs, C, h => by
    unfold okEs at h
    rw [List.isEmpty_iff] at h
    subst h
    have q : evEs (tbl Γ.p k) .nil = fun _ => M.pure [] := by funext ε; rw [evEs]
    rw [q]
    exact da_nil
  | .cons a es, c, X, xs, C, h => by
    unfold okEs at h
    split at h
    · simp only [Bool.and_eq_true] at h
      have q : evEs (tbl Γ.p k) (.cons a es) = fun ε => M.bind (evE (tbl Γ.p k) a ε) fun v => M.bind (evEs (tbl Γ.p k) es ε) fun vs => M.pure (v :: vs) := by funext ε; rw [evEs]
      rw [q]
      exact da_cons h.1.1 (sE K a false c X _ C h.1.2) (sEs K es c X _ C h.2)
    · cases h
theorem sKs (K : GsOk Γ G) : ∀ (es : Es) (c : Ct) (X : Cx) (xs : List Keyword), Cn Γ k c X → okKs G es c xs = true → DK Γ X xs (evEs (tbl Γ.p k) es)
  | .nil, c, X, xs, C, h => by
    unfold okKs at h
    rw [List.isEmpty_iff] at h
    subst h
    have q : evEs (tbl Γ.p k) .nil = fun _ => M.pure [] := by funext ε; rw [evEs]
    rw [q]
    exact dk_nil
  | .cons a es, c, X, xs, C, h => by
    unfold okKs at h
    split at h
    · rename_i kw xs
      simp only [Bool.and_eq_true] at h
      have q : evEs (tbl Γ.p k) (.cons a es) = fun ε => M.bind (evE (tbl Γ.p k) a ε) fun v => M.bind (evEs (tbl Γ.p k) es ε) fun vs => M.pure (v :: vs) := by funext ε; rw [evEs]
      rw [q]
      obtain ⟨nm, e, p⟩ := kw
      exact dk_cons (sE K a false c X _ C h.1) (sKs K es c X _ C h.2)
    · cases h
theorem sI (K : GsOk Γ G) : ∀ (it : I) (c : Ct) (X : Cx) (tg e : Expr), Cn Γ k c X → okI G it c tg e = true → DI Γ X (prI it) tg e (evI (tbl Γ.p k) it)
  | .of a, c, X, tg, e, C, h => by
    unfold okI at h
    rw [Bool.and_eq_true] at h
    exact (di_of (sE K a false c X _ C h.2)).to fun ε => by rw [evI]; try rfl
  | .rng1 a, c, X, tg, e, C, h => by
    unfold okI at h
    split at h
    · simp only [Bool.and_eq_true] at h
      obtain ⟨rfl, b1⟩ := bltB_of K C bt_range h.1.1
      exact (di_rng1 b1 (sE K a false c X _ C h.2) h.1.2).to fun ε => by rw [evI]; try rfl
    · cases h
  | .rng2 a b, c, X, tg, e, C, h => by
    unfold okI at h
    split at h
    · simp only [Bool.and_eq_true] at h
      obtain ⟨⟨⟨⟨h1, h2⟩, h3⟩, h4⟩, h5⟩ := h
      obtain ⟨rfl, b1⟩ := bltB_of K C bt_range h1
      exact (di_rng2 b1 (sE K a false c X _ C h4) h2 (sE K b false c X _ C h5) h3).to fun ε => by rw [evI]; try rfl
    · cases h
  | .enum a, c, X, tg, e, C, h => by
    unfold okI at h
    split at h
    · simp only [Bool.and_eq_true] at h
      obtain ⟨⟨⟨h1, h2⟩, h3⟩, h4⟩ := h
      obtain ⟨rfl, b1⟩ := bltB_of K C bt_enumerate h2
      cases tg <;> first
        | (cases h1; done)
        | exact (di_enum b1 (sE K a false c X _ C h4) h3).to fun ε => by rw [evI]; try rfl
    · cases h
  | .zip a b, c, X, tg, e, C, h => by
    unfold okI at h
    split at h
    · simp only [Bool.and_eq_true] at h
      obtain ⟨⟨⟨⟨⟨h1, h2⟩, h3⟩, h4⟩, h5⟩, h6⟩ := h
      obtain ⟨rfl, b1⟩ := bltB_of K C bt_zip h2
      cases tg <;> first
        | (cases h1; done)
        | exact (di_zip b1 (sE K a false c X _ C h5) h3 (sE K b false c X _ C h6) h4).to fun ε => by rw [evI]; try rfl
    · cases h
  | .rng3 _ _ _, c, X, tg, e, C, h => by unfold okI at h; cases h
  | .items _, c, X, tg, e, C, h => by unfold okI at h; cases h
  | .vals _, c, X, tg, e, C, h => by unfold okI at h; cases h
  | .keys _, c, X, tg, e, C, h => by unfold okI at h; cases h
theorem sC (K : GsOk Γ G) : ∀ (cs : Cs) (own : List Nat) (c : Ct) (X : Cx) (scope : Scope) (gs : List Comprehension), Cn Γ k c X → scope.kind = .function → okC G cs own c scope gs = true →
    ∃ (pr : Bool) (tg iter : Expr) (ifs : List Expr) (Fi : Env → M (Option Gd × List PyData)) (Ft : PyData → Env → M Env) (Fc : Env → M Bool), gs = [⟨tg, iter, ifs, 0⟩] ∧ DI Γ X pr tg iter Fi ∧ isSet iter = false ∧ BlkD Γ X scope own pr tg ifs Ft Fc ∧ ∀ k', evCs (tbl Γ.p k) cs k' = csF Fi Ft Fc k'
  | .cons t it d .nil, own, c, X, scope, gs, C, hk, h => by
    unfold okC at h
    split at h
    · rename_i tg iter ifs
      simp only [Bool.and_eq_true] at h
      obtain ⟨⟨⟨h1, h2⟩, h3⟩, h4⟩ := h
      refine ⟨prI it, tg, iter, ifs, evI (tbl Γ.p k) it, evT (tbl Γ.p k) t, evC (tbl Γ.p k) d, rfl, sI K it c X tg iter C h1, ?_, ⟨fun s H A cl fp => ?_, fun s H A cl fp => ?_, fun d ε st ε' st' hf e => flat_T t d ε st ε' st' hf e⟩, fun k' => ?_⟩
      · cases it <;> unfold okI at h1
        · rw [Bool.and_eq_true] at h1
          simpa using h1.1
        all_goals first
          | (cases h1; done)
          | (split at h1
             · rfl
             · cases h1)
      · have i := sT K t own (subCt c scope) _ tg (C.blk hk (s := s) (H := H) (cl := cl) (A := A) (fp := fp)) h3
        unfold DGp
        cases ep : prI it with
        | false => rw [if_neg (by decide)]; exact i.1
        | true =>
          rw [if_pos rfl]
          rw [ep] at h2
          exact i.2 (by simpa using h2)
      · cases ifs with
        | nil =>
          have z : d = .no := isNo_of (by simpa using h4)
          rw [z]
          have q : evC (tbl Γ.p k) .no = fun _ => M.pure true := by funext ε; rw [evC]
          rw [q]
          exact dts_nil
        | cons x r =>
          cases r with
          | nil =>
            have h5 : isNo d = false ∧ okE G d true (subCt c scope) x = true := by simpa using h4
            have q : evC (tbl Γ.p k) d = tst (evE (tbl Γ.p k) d) := by
              funext ε
              rw [evC]
              · rfl
              · intro z; rw [z] at h5; cases h5.1
            rw [q]
            exact dts_one (sE K d true (subCt c scope) _ x (C.blk hk) h5.2).1
          | cons _ _ => cases h4
      · funext ε
        rw [evCs]
        unfold csF c1F
        congr 1
        funext q
        congr 1
        funext _
        congr 1
        funext x
        congr 1
        funext ε'
        congr 1
        funext b
        cases b with
        | true => rw [if_pos rfl, if_pos rfl, evCs]
        | false => rfl
    · cases h
  | .nil, own, c, X, scope, gs, C, hk, h => by unfold okC at h; cases h
  | .cons t it d (.cons _ _ _ _), own, c, X, scope, gs, C, hk, h => by unfold okC at h; cases h
theorem sT (K : GsOk Γ G) : ∀ (t : T) (vv : List Nat) (c : Ct) (X : Cx) (e : Expr), Cn Γ k c X → okT G t vv c e = true → DG Γ X vv e (evT (tbl Γ.p k) t) ∧ (isTp t = true → DG2 Γ X vv e (evT (tbl Γ.p k) t))
  | .nm i, vv, c, X, e, C, h => by
    unfold okT at h
    split at h
    · simp only [Bool.and_eq_true, decide_eq_true_eq] at h
      have q : evT (tbl Γ.p k) (.nm i) = fun d ε => M.pure (setE ε i (.d d)) := by funext d ε; rw [evT]
      rw [q]
      exact ⟨dg_nm C.ok.nd (storeB_of C h.1) h.2, fun z => by cases z⟩
    · cases h
  | .tp ts, vv, c, X, e, C, h => by
    unfold okT at h
    split at h
    · obtain ⟨h1, h2, h3⟩ := sTs K ts vv c X _ C h
      rw [evT_tp]
      have h4 : LenOk _ (lenF (tsLen ts) (evTs (tbl Γ.p k) ts)) := lenF_ok
      rw [← h3] at h4 ⊢
      exact ⟨dg_tp C.ok.calm h1.len h2 h4, fun _ => dg2_tp C.ok.calm h1.len h2 h4⟩
    · cases h
  | .sb a i, vv, c, X, e, C, h => by
    unfold okT at h
    split at h
    · simp only [Bool.and_eq_true, Bool.not_eq_true'] at h
      have q : evT (tbl Γ.p k) (.sb a i) = fun d ε => M.bind (evE (tbl Γ.p k) a ε) fun v => M.bind (evE (tbl Γ.p k) i ε) fun i => M.bind (dat i) fun i => M.bind (storeL v i d) fun _ => M.pure ε := by funext d ε; rw [evT]
      rw [q]
      exact ⟨dg_st set_L (sE K a false c X _ C h.1.2) (sE K i false c X _ C h.2) h.1.1, fun z => by cases z⟩
    · cases h
  | .ds a i, vv, c, X, e, C, h => by
    unfold okT at h
    split at h
    · simp only [Bool.and_eq_true, Bool.not_eq_true'] at h
      have q : evT (tbl Γ.p k) (.ds a i) = fun d ε => M.bind (evE (tbl Γ.p k) a ε) fun v => M.bind (evE (tbl Γ.p k) i ε) fun i => M.bind (dat i) fun i => M.bind (storeD v i d) fun _ => M.pure ε := by funext d ε; rw [evT]
      rw [q]
      exact ⟨dg_st (set_D C.ok.room) (sE K a false c X _ C h.1.2) (sE K i false c X _ C h.2) h.1.1, fun z => by cases z⟩
    · cases h
theorem sTs (K : GsOk Γ G) : ∀ (ts : Ts) (vv : List Nat) (c : Ct) (X : Cx) (xs : List Expr), Cn Γ k c X → okTs G ts vv c xs = true → DGs Γ X vv xs (evTs (tbl Γ.p k) ts) ∧ unstars xs = true ∧ xs.length = tsLen ts
  | .nil, vv, c, X, xs, C, h => by
    unfold okTs at h
    rw [List.isEmpty_iff] at h
    subst h
    have q : evTs (tbl Γ.p k) .nil = fun ds ε => match ds with
      | [] => M.pure ε
      | _ => M.bad := by
      funext ds ε
      cases ds with
      | nil => rw [evTs]
      | cons d r => rw [evTs]; all_goals (intros; contradiction)
    rw [q]
    exact ⟨dgs_nil, rfl, rfl⟩
  | .cons t ts, vv, c, X, xs, C, h => by
    unfold okTs at h
    split at h
    · simp only [Bool.and_eq_true] at h
      obtain ⟨h1, h2, h3⟩ := sTs K ts vv c X _ C h.2
      have q : evTs (tbl Γ.p k) (.cons t ts) = fun ds ε => match ds with
        | d :: r => M.bind (evT (tbl Γ.p k) t d ε) fun ε' => evTs (tbl Γ.p k) ts r ε'
        | [] => M.bad := by
        funext ds ε
        cases ds with
        | nil => rw [evTs]; all_goals (intros; contradiction)
        | cons d r => rw [evTs]
      rw [q]
      refine ⟨dgs_cons (sT K t vv c X _ C h.1.2).1 h1 h.1.1, ?_, ?_⟩
      · unfold unstars at h2 ⊢
        rw [List.all_cons, h.1.1, h2]
        rfl
      · show _ + 1 = _ + 1
        rw [h3]
    · cases h
end
end
end Fx

set_option Elab.async false
set_option linter.all false
set_option maxRecDepth 100000
set_option maxHeartbeats 4000000
/-! Fx43: what the checker takes is so: statements. -/
namespace Fx
open PySem PySem.Spec PyProof.Rows L2 NdefX LamX
section
variable {Γ : Gc} {G : Gs} {k : Nat} {c : Ct} {X : Cx}
theorem DS.to {s : Stmt} {F F' : Env → M Fl} (h : DS Γ X s F) (q : ∀ ε, F' ε = F ε) : DS Γ X s F' := by
  have : F' = F := funext q
  rw [this]; exact h
theorem DSs.to {s : List Stmt} {F F' : Env → M Fl} (h : DSs Γ X s F) (q : ∀ ε, F' ε = F ε) : DSs Γ X s F' := by
  have : F' = F := funext q
  rw [this]; exact h
theorem ann_nil {env : PySem.Env} : ∀ {l : List Arg}, (l.all fun a => a.annotation.isNone) = true → annotationsOf l env = []
  | [], _ => rfl
  | ⟨n, none, p⟩ :: r, h => by
    rw [List.all_cons, Bool.and_eq_true] at h
    exact ann_nil (l := r) h.2
  | ⟨n, some a, p⟩ :: r, h => by cases h
theorem annB_of {p : Arguments} {env : PySem.Env} (h : annB p = true) : annTrees p none env = [] := by
  obtain ⟨po, a, va, ko, kd, kwa, d⟩ := p
  unfold annB at h
  simp only [Bool.and_eq_true, List.isEmpty_iff, Option.isNone_iff_eq_none] at h
  obtain ⟨⟨⟨⟨rfl, rfl⟩, rfl⟩, rfl⟩, h⟩ := h
  show annotationsOf (a ++ [] ++ [] ++ [] ++ []) env ++ [] = []
  simp only [List.append_nil]
  exact ann_nil (by simpa using h)
def sB (e : Expr) : Bool := match e with
  | .Starred _ _ => true
  | _ => false
theorem sB_un {e : Expr} (h : unstar e = true) : sB e = false := by
  cases e <;> first | rfl | cases h
theorem par_sw {a b : Expr} {x y : Str} {px py pt pt2 : Pos} {kt k2 : Nat} {r : Bool} (C : Cn Γ k c X) (h : parSw [a, b] x y px py c = some r) :
    swappedStores [.Tuple [.Name x px, .Name y py] kt pt] (.Tuple [a, b] k2 pt2) X.env = pure (if r then some [x, y] else none) ∧ (r = true → X.env.scope.names.lookup x = some .local ∧ X.env.scope.names.lookup y = some .local) := by
  have hb : X.env.blockKind = .function := by
    unfold Env.blockKind
    rw [C.hk]
    rfl
  have hko : ∀ z, X.env.kindOf z = X.env.scope.names.lookup z := fun _ => rfl
  unfold parSw at h
  rw [← C.hsc] at h
  split at h
  · cases h
  rename_i hst
  have hu : unstar a = true ∧ unstar b = true := by
    unfold unstars at hst
    simpa using hst
  unfold swappedStores
  simp only [List.length_cons, List.length_nil, hb, List.any_cons, List.any_nil, List.head?_cons, Option.map_some, Option.getD_some, List.filterMap_cons, List.filterMap_nil, hko, Expr.pos, beq_self_eq_true, Bool.and_true]
  have hx : (X.env.scope.names.lookup x == some NameKind.local) = decide (X.env.scope.names.lookup x = some .local) := by
    cases e : X.env.scope.names.lookup x with
    | none => rfl
    | some q => cases q <;> rfl
  have hy : (X.env.scope.names.lookup y == some NameKind.local) = decide (X.env.scope.names.lookup y = some .local) := by
    cases e : X.env.scope.names.lookup y with
    | none => rfl
    | some q => cases q <;> rfl
  rw [hx, hy]
  have fin1 : ∀ z : Bool, (sB a || (sB b || false)) = z → z = false := fun z e => by rw [← e, sB_un hu.1, sB_un hu.2]; rfl
  split at h
  · rename_i hl
    cases h
    refine ⟨?_, fun z => by cases z⟩
    refine (if_neg (by decide)).trans ((if_neg fun z => absurd ((fin1 true z)) (by decide)).trans ((if_pos ?_).trans rfl))
    simp only [Bool.not_eq_true', Bool.and_eq_false_iff] at hl
    rw [Bool.or_eq_true]
    refine .inl ?_
    rcases hl with (hl | hl) | hl
    · rw [hl]
      simp only [Bool.false_eq_true, if_false]
      split <;> rfl
    · rw [hl]
      simp only [Bool.false_and, Bool.false_eq_true, if_false]
      split <;> rfl
    · rw [hl]
      simp only [Bool.and_false, Bool.false_eq_true, if_false]
      split <;> rfl
  · rename_i hl
    simp only [Bool.not_eq_true', Bool.not_eq_false, Bool.and_eq_true, decide_eq_true_eq] at hl
    obtain ⟨⟨l1, l2⟩, l3⟩ := hl
    rw [l1, l2, l3]
    simp only [decide_true, Bool.and_self, if_true]
    split at h
    · cases h
    rename_i hxy
    have hd : ([x, y].eraseDups.length != [x, y].length) = false := by
      have e : (y == x) = false := by simpa using fun z : y = x => hxy (decide_eq_true z.symm)
      simp [List.eraseDups_cons, e]
    have c3 : ¬ (([x, y].length != 0 + 1 + 1 || [x, y].eraseDups.length != [x, y].length) = true) := by
      rw [hd]
      intro z
      cases z
    refine ⟨?_, fun _ => ⟨trivial, trivial⟩⟩
    refine (if_neg (by decide)).trans ((if_neg fun z => absurd ((fin1 true z)) (by decide)).trans ((if_neg c3).trans ?_))
    split at h
    · rename_i hf
      cases h
      exact (if_pos hf).trans rfl
    · rename_i hf
      split at h
      · cases h
      · rename_i hg
        cases h
        refine (if_neg hf).trans ?_
        rw [if_neg hg]
        rfl
theorem s_setC (K : GsOk Γ G) (C : Cn Γ k c X) {a : E} {i : Nat} {y : Str} {py spos : Pos} {v : Expr} (ha : isComp a = true) (h : okE G a false c v = true) (hst : storeB c i y = true) (hsw : swB c y py v = true) (hl : spos.line = spos.line) :
    ∀ hln : spos.line = spos.line, DS Γ X (.Assign [.Name y py] v spos) (fun ε => M.bind (evE (tbl Γ.p k) a ε) fun v => M.bind (noC v) fun v => M.pure (.nx (setE ε i v))) := fun _ => by
  have hN : X.N[i]? = some y := (storeB_of C hst).at_
  cases a <;> first | (cases ha; done) | skip
  · rename_i ob own cs a
    unfold okE at h
    split at h
    · rename_i elt gs scope pos
      simp only [Bool.and_eq_true, decide_eq_true_eq] at h
      obtain ⟨⟨⟨h1, h2⟩, h3⟩, h4⟩ := h
      have bo := blkOk_of h2
      unfold swB at hsw
      simp only [Bool.and_eq_true, decide_eq_true_eq, Bool.not_eq_true'] at hsw
      obtain ⟨⟨w1, w2⟩, w3⟩ := hsw
      have hy : X.env.scope.names.lookup y = some .local := by rw [C.hsc]; exact w1
      obtain ⟨pr, tg, iter, ifs, Fi, Ft, Fc, rfl, hi, hs, hb, q⟩ := sC K cs own c X _ _ C bo.kind h3
      refine (ds_setLc (ob := ob) C.ok.calm C.ok.nd hN hy (sw_on C.hk hy w2 w3) hi (by rw [C.hN, C.hsc]; exact bo) h1 hb (fun s H A cl fp => sE K a false (subCt c _) _ _ (C.blk bo.kind) h4) (fun x => not_set hs x)).to fun ε => ?_
      rw [evE, q]
      rfl
    · cases h
  · rename_i tk own cs a b
    unfold okE at h
    split at h
    · rename_i kx vx gs scope pos
      simp only [Bool.and_eq_true, decide_eq_true_eq, Bool.not_eq_true'] at h
      obtain ⟨⟨⟨⟨⟨rfl, h1⟩, h2⟩, h3⟩, h4⟩, h5⟩ := h
      have bo := blkOk_of h2
      unfold swB at hsw
      simp only [Bool.and_eq_true, decide_eq_true_eq, Bool.not_eq_true'] at hsw
      obtain ⟨⟨w1, w2⟩, w3⟩ := hsw
      have hy : X.env.scope.names.lookup y = some .local := by rw [C.hsc]; exact w1
      obtain ⟨pr, tg, iter, ifs, Fi, Ft, Fc, rfl, hi, hs, hb, q⟩ := sC K cs own c X _ _ C bo.kind h3
      refine (ds_setDc C.ok.calm C.ok.nd hN hy (sw_on C.hk hy w2 w3) hi (by rw [C.hN, C.hsc]; exact bo) h1 hb (fun s H A cl fp => sE K a false (subCt c _) _ _ (C.blk bo.kind) h4) (fun s H A cl fp => sE K b false (subCt c _) _ _ (C.blk bo.kind) h5) (fun x => not_set hs x)).to fun ε => ?_
      rw [evE, q]
      rfl
    · cases h
end
section
variable {Γ : Gc} {G : Gs} {k : Nat}
mutual
theorem sS (K : GsOk Γ G) : ∀ (a : S) (c : Ct) (X : Cx) (s : Stmt), Cn Γ k c X → okS G a c s = true → DS Γ X s (evS (tbl Γ.p k) a)
  | .ex a, c, X, s, C, h => by
    unfold okS at h
    rw [Bool.or_eq_true] at h
    rcases h with h | h
    · rw [isNo_of h]
      exact ds_bad.to fun ε => by rw [evS, evE]; rfl
    · split at h
      · rw [Bool.and_eq_true, Bool.not_eq_true'] at h
        exact (ds_ex (sE K a false c X _ C h.2) h.1).to fun ε => by rw [evS]
      · cases h
  | .asg t a, c, X, s, C, h => by
    unfold okS at h
    split at h
    · rename_i e v p
      split at h
      · rename_i i
        split at h
        · rename_i x py
          simp only [Bool.and_eq_true] at h
          obtain ⟨⟨h1, h2⟩, h3⟩ := h
          have q : ∀ ε, evS (tbl Γ.p k) (.asg (.nm i) a) ε = M.bind (evE (tbl Γ.p k) a ε) fun v => M.bind (noC v) fun v => M.pure (.nx (setE ε i v)) := fun ε => by rw [evS]
          cases hc : compE v with
          | false => exact (ds_set C.ok.nd (storeB_of C h1) (sE K a false c X _ C h2) hc).to q
          | true =>
            rw [hc, if_pos rfl, Bool.and_eq_true, Bool.or_eq_true] at h3
            rcases h3.2 with h4 | h4
            · refine (ds_setX C.ok.nd (storeB_of C h1) (sE K a false c X _ C h2) (sw_off ?_ C.hk)).to q
              unfold swOff at h4
              rw [C.hsc]
              simpa using h4
            · exact (s_setC K C h3.1 h2 h1 h4 rfl rfl).to q
        · cases h
      · rename_i hn
        simp only [Bool.and_eq_true, Bool.not_eq_true'] at h
        obtain ⟨⟨⟨⟨⟨h1, h2⟩, h3⟩, h4⟩, h5⟩, h6⟩ := h
        refine (ds_asg (sT K t _ c X _ C h5).1 (sE K a false c X _ C h6) h1 h2 h3 h4).to fun ε => ?_
        rw [evS]
        intro i z
        exact hn i z
    · cases h
  | .par ts es, c, X, s, C, h => by
    unfold okS at h
    split at h
    · rename_i i j
      split at h
      · rename_i x px y py kt pt a b k2 pt2 p
        simp only [Bool.and_eq_true] at h
        obtain ⟨⟨⟨h1, h2⟩, h3⟩, h4⟩ := h
        have q : ∀ ε, evS (tbl Γ.p k) (.par (.cons (.nm i) (.cons (.nm j) .nil)) es) ε = M.bind (evEs (tbl Γ.p k) es ε) fun vs => (match evPar (.cons (.nm i) (.cons (.nm j) .nil)) vs ε with
          | some ε' => M.pure (.nx ε')
          | none => M.bad) := fun ε => by rw [evS]; all_goals rfl
        split at h4
        · rename_i e
          obtain ⟨w1, w2⟩ := par_sw C e (pt := pt) (pt2 := pt2) (kt := kt) (k2 := k2)
          exact (ds_par2 C.ok.calm C.ok.nd (storeB_of C h1) (storeB_of C h2) (of_decide_eq_true h4) (sEs K es c X _ C h3) (w2 rfl).1 (w2 rfl).2 w1).to q
        · rename_i e
          obtain ⟨w1, w2⟩ := par_sw C e (pt := pt) (pt2 := pt2) (kt := kt) (k2 := k2)
          exact (ds_par2T C.ok.calm C.ok.nd (storeB_of C h1) (storeB_of C h2) (sEs K es c X _ C h3) w1).to q
        · cases h4
      · cases h
    · cases h
  | .aug i op a, c, X, s, C, h => by
    unfold okS at h
    split at h
    · simp only [Bool.and_eq_true, decide_eq_true_eq, Bool.or_eq_true] at h
      obtain ⟨⟨⟨rfl, h1⟩, h2⟩, h3⟩ := h
      exact (ds_aug C.ok.nd (storeB_of C h2) (sE K a false c X _ C h3) h1).to fun ε => by rw [evS]; rfl
    · cases h
  | .ret a, c, X, s, C, h => by
    unfold okS at h
    split at h
    · exact (ds_ret (sE K a false c X _ C h)).to fun ε => by rw [evS]
    · cases h
  | .retN, c, X, s, C, h => by
    unfold okS at h
    split at h
    · exact ds_retN.to fun ε => by rw [evS]
    · cases h
  | .ifs d a b, c, X, s, C, h => by
    unfold okS at h
    split at h
    · simp only [Bool.and_eq_true] at h
      exact (ds_if (sE K d true c X _ C h.1.1).1 (sSs K a c X _ C h.1.2) (sSs K b c X _ C h.2)).to fun ε => by rw [evS]
    · cases h
  | .for_ t it b, c, X, s, C, h => by
    unfold okS at h
    split at h
    · rename_i tg iter body p
      simp only [Bool.and_eq_true, Bool.not_eq_true'] at h
      obtain ⟨⟨⟨⟨h1, h2⟩, h3⟩, h4⟩, h5⟩ := h
      have hg : DGp Γ X (List.range c.N.length) (prI it) tg (evT (tbl Γ.p k) t) := by
        have i := sT K t (List.range c.N.length) c X _ C h4
        unfold DGp
        cases ep : prI it with
        | false => rw [if_neg (by decide)]; exact i.1
        | true =>
          rw [if_pos rfl]
          rw [ep] at h3
          exact i.2 (by simpa using h3)
      exact (ds_for C.ok.passes C.ok.calm (sI K it c X _ _ C h1) hg (sSs K b c X _ C h5) (fun x => not_set h2 x)).to fun ε => by rw [evS]; rfl
    · cases h
  | .whl n d b, c, X, s, C, h => by
    unfold okS at h
    split at h
    · rw [Bool.and_eq_true] at h
      exact (ds_whl C.ok.passes (sE K d true c X _ C h.1).1 (sSs K b c X _ C h.2) n).to fun ε => by rw [evS]; rfl
    · cases h
  | .pass, c, X, s, C, h => by
    unfold okS at h
    split at h
    · exact ds_pass.to fun ε => by rw [evS]
    · cases h
  | .brk, c, X, s, C, h => by
    unfold okS at h
    split at h
    · exact ds_brk.to fun ε => by rw [evS]
    · cases h
  | .cnt, c, X, s, C, h => by
    unfold okS at h
    split at h
    · exact ds_cnt.to fun ε => by rw [evS]
    · cases h
  | .ndef i kk js, c, X, s, C, h => by
    unfold okS at h
    split at h
    · simp only [Bool.and_eq_true, decide_eq_true_eq] at h
      obtain ⟨⟨⟨rfl, h1⟩, h2⟩, h3⟩ := h
      obtain ⟨P, nm, ci, mk, m, hd, hk⟩ := mkF_of K C h2
      exact (ds_ndef mk m hd hk (annB_of h3) C.ok.nd (storeB_of C h1)).to fun ε => by rw [evS]
    · cases h
  | .augs _ _ _ _, c, X, s, C, h => by unfold okS at h; cases h
  | .raise _ _ _, c, X, s, C, h => by unfold okS at h; cases h
  | .raise0 _, c, X, s, C, h => by unfold okS at h; cases h
theorem sSs (K : GsOk Γ G) : ∀ (a : Ss) (c : Ct) (X : Cx) (s : List Stmt), Cn Γ k c X → okSs G a c s = true → DSs Γ X s (evSs (tbl Γ.p k) a)
  | .nil, c, X, xs, C, h => by
    unfold okSs at h
    rw [List.isEmpty_iff] at h
    subst h
    exact dss_nil.to fun ε => by rw [evSs]
  | .cons s ss, c, X, xs, C, h => by
    unfold okSs at h
    split at h
    · rw [Bool.and_eq_true] at h
      exact (dss_cons (sS K s c X _ C h.1) (sSs K ss c X _ C h.2)).to fun ε => by rw [evSs]; rfl
    · cases h
end
end
end Fx

set_option Elab.async false
set_option linter.all false
set_option maxRecDepth 100000
set_option maxHeartbeats 2000000
/-! Fx44: the end of a law: the law's call, from the machine that a claim starts. -/
namespace Fx
open PySem PySem.Spec PyProof.Rows L2 NdefX LamX
/-- the abstract heap at the law's call: the script, locked; empty tables -/
def heap0 (a : Addr) (so : PySem.Obj) (xs : List V) (ts : List Addr) : Hp := fun b => if b = a then some (.frz so (.lst xs)) else if b ∈ ts then some (.tbl #[]) else none
abbrev scr (us : List Value) : PySem.Obj := { cls := .type "list", data := .seq us.toArray }
theorem nope {cls : Value} {d : Option Addr} {E : XK} (h : (fun (_ : Value) (_ : Option Addr) (_ : Hp) => False) cls d H) : False := h
/-- where the law is called -/
structure Called (P : Program) (w : World) (K : PySem.W.Frag) (mg : Str → Option Value) (cs : List (Addr × Addr)) (s : Shared) (a : Addr) (us : List Value) : Prop where
  kin : K.In s.heap
  ns : s.heap.Ns mainGlobals mg
  blt : ∃ mb, s.heap.Ns builtinsNs mb ∧ ∀ x : Str, x ≠ "__name__" → mb x = bootBuiltins x
  lim : s.heap.NoLimit
  gens : s.gens = #[]
  tab : ∀ p ∈ cs, s.heap.get? p.2 = some { cls := .none, data := .fields #[] }
  out : ∀ p ∈ cs, K.lookup p.2 = none
  hd : ∀ p ∈ cs, PySem.W.CodeHd s.heap p.1 p.2
  mods : ∃ (bm : Addr) (ob : PySem.Obj), mg "__builtins__" = some (.ref bm) ∧ bm ≠ builtinsNs ∧ s.heap.get? bm = some ob ∧ ob.cls = .type "module" ∧ ob.dict = some builtinsNs ∧ ob.data = .plain
  at_ : s.heap.get? a = some (scr us)
  away : K.lookup a = none
section
variable {P : Program} {w : World} {K : PySem.W.Frag} {mg : Str → Option Value} {cs : List (Addr × Addr)} {s : Shared} {a : Addr} {us : List Value} {xs : List V}
theorem Called.notab (C : Called P w K mg cs s a us) : a ∉ cs.map (·.2) := fun z => by
  obtain ⟨p, hp, e⟩ := List.mem_map.mp z
  have q := C.tab p hp
  rw [e, C.at_] at q
  have y : Data.seq us.toArray _ = Data.fields #[] := congrArg Obj.data (Option.some.inj q)
  cases y
theorem Called.tbl (C : Called P w K mg cs s a us) {p : Addr × Addr} (hp : p ∈ cs) : heap0 a (scr us) xs (cs.map (·.2)) p.2 = some (.tbl #[]) := by
  have hm : p.2 ∈ cs.map (·.2) := List.mem_map.mpr ⟨p, hp, rfl⟩
  unfold heap0
  rw [if_neg (fun z => C.notab (by rw [← z]; exact hm)), if_pos hm]
theorem heap0_at {so : PySem.Obj} {ts : List Addr} : heap0 a so xs ts a = some (.frz so (.lst xs)) := if_pos rfl
theorem heap0_some {so : PySem.Obj} {ts : List Addr} {b : Addr} {o : HO} (h : heap0 a so xs ts b = some o) : (b = a ∧ o = .frz so (.lst xs)) ∨ (b ∈ ts ∧ o = .tbl #[]) := by
  unfold heap0 at h
  by_cases z : b = a
  · rw [if_pos z] at h; cases h; exact .inl ⟨z, rfl⟩
  · rw [if_neg z] at h
    by_cases y : b ∈ ts
    · rw [if_pos y] at h; cases h; exact .inr ⟨y, rfl⟩
    · rw [if_neg y] at h; cases h
theorem Called.hok (C : Called P w K mg cs s a us) (hv : Vals xs us) (hl : xs.length ≤ sizeLine) : HOk P w (heap0 a (scr us) xs (cs.map (·.2))) s.heap := fun b o h => by
  rcases heap0_some h with ⟨rfl, rfl⟩ | ⟨hb, rfl⟩
  · exact ⟨C.at_, hl, us, _, hv, C.at_⟩
  · obtain ⟨p, hp, rfl⟩ := List.mem_map.mp hb
    exact C.tab p hp
/-- what is neither a list nor empty fields is not tracked -/
theorem Called.free (C : Called P w K mg cs s a us) {b : Addr} {o : PySem.Obj} (e : s.heap.get? b = some o) (h1 : ∀ vs n, o.data ≠ .seq vs n) (h2 : o.data ≠ .fields #[]) : heap0 a (scr us) xs (cs.map (·.2)) b = none := by
  cases q : heap0 a (scr us) xs (cs.map (·.2)) b with
  | none => rfl
  | some u =>
    rcases heap0_some q with ⟨rfl, _⟩ | ⟨hb, _⟩
    · rw [C.at_] at e
      cases e
      exact (h1 _ _ rfl).elim
    · obtain ⟨p, hp, rfl⟩ := List.mem_map.mp hb
      rw [C.tab p hp] at e
      cases e
      exact (h2 rfl).elim
theorem Called.freeD (C : Called P w K mg cs s a us) {b : Addr} {o : PySem.Obj} {es : Array DictEntry} {ep : Nat} (e : s.heap.get? b = some o) (d : o.data = .dict es ep) : heap0 a (scr us) xs (cs.map (·.2)) b = none :=
  C.free e (fun vs n z => by rw [d] at z; cases z) fun z => by rw [d] at z; cases z
theorem Called.nsB (C : Called P w K mg cs s a us) {b : Addr} {m : Str → Option Value} (h : s.heap.Ns b m) : (hidT s.heap (heap0 a (scr us) xs (cs.map (·.2)))).Ns b m := by
  obtain ⟨o, es, ep, e, d, r⟩ := h
  exact ⟨o, es, ep, hidT_get e (C.freeD e d), d, r⟩
theorem Called.kB (C : Called P w K mg cs s a us) : K.In (hidT s.heap (heap0 a (scr us) xs (cs.map (·.2)))) := fun b o e => hidT_get (C.kin b o e) (by
  cases q : heap0 a (scr us) xs (cs.map (·.2)) b with
  | none => rfl
  | some u =>
    rcases heap0_some q with ⟨rfl, _⟩ | ⟨hb, _⟩
    · rw [C.away] at e; cases e
    · obtain ⟨p, hp, rfl⟩ := List.mem_map.mp hb
      rw [C.out p hp] at e; cases e)
theorem Called.tB (C : Called P w K mg cs s a us) : ∀ p ∈ cs, TabB (hidT s.heap (heap0 a (scr us) xs (cs.map (·.2)))) mg p.1 p.2 := fun p hp => by
  refine ⟨?_, ?_, fun z => ?_⟩
  · obtain ⟨o, u, fi, tf, fl, tg, iF, tx, tt, e1, r1, r2, r3, rest⟩ := C.hd p hp
    exact ⟨o, u, fi, tf, fl, tg, iF, tx, tt, hidT_get e1 (C.free e1 (fun vs n z => by rw [r2] at z; cases z) fun z => by rw [r2] at z; cases z; simp at r3), r1, r2, r3, rest⟩
  · obtain ⟨bm, ob, b1, b2, b3, b4, b5, b6⟩ := C.mods
    refine ⟨bm, ob, b1, b2, fun q => ?_, fun q => ?_, hidT_get b3 (C.free b3 (fun vs n z => by rw [b6] at z; cases z) fun z => by rw [b6] at z; cases z), b4, b5, b6⟩
    · obtain ⟨o, es, ep, e, hd, _⟩ := C.ns
      rw [q, e] at b3
      cases b3
      rw [hd] at b6
      cases b6
    · rw [q, C.tab p hp] at b3
      cases b3
      cases b6
  · obtain ⟨o, es, ep, e, hd, _⟩ := C.ns
    rw [z, C.tab p hp] at e
    cases e
    cases hd
theorem Called.env0 (C : Called P w K mg cs s a us) (hv : Vals xs us) (hl : xs.length ≤ sizeLine) : Env0 P w K mg (hidT s.heap (heap0 a (scr us) xs (cs.map (·.2)))) callerA [] s (heap0 a (scr us) xs (cs.map (·.2))) := by
  obtain ⟨mb, hb, hbb⟩ := C.blt
  obtain ⟨mc, h1, h2⟩ := C.lim
  exact ⟨rfl, ⟨C.kB, C.nsB C.ns, ⟨mb, C.nsB hb, hbb⟩, ⟨mc, C.nsB h1, h2⟩⟩, fun b o e => of_hidT e, Nat.le_of_eq (hidT_size _ _), trivial, fun b hb => absurd (show b ∈ ([] : List Addr) from hb) (by simp), C.hok hv hl, .of_eq C.gens⟩
/-- what is left behind the law's call -/
theorem Called.fin (C : Called P w K mg cs s a us) (hv : Vals xs us) (hl : xs.length ≤ sizeLine) {r : Result} {s' : Shared} (h : CR (L2.CX P w) [] P w (heap0 a (scr us) xs (cs.map (·.2))) s (fun v _ => v = .bl true) (fun _ _ _ => False) r s') :
    r = .ok (.ret (.bool true)) ∧ OldK s.heap s'.heap ∧ s'.os = s.os ∧ AllBare s'.gens := by
  cases r with
  | error e =>
    obtain ⟨_, _, _, _, _, _, _, _, _, _, _, _, z⟩ := h
    exact False.elim z
  | ok fl =>
    cases fl with
    | next => exact False.elim h
    | brk => exact False.elim h
    | cont => exact False.elim h
    | ret u =>
      obtain ⟨v, H', os, bare, un, hok', r', q⟩ := h
      have q' : v = .bl true := q
      subst q'
      obtain rfl : u = Value.bool true := r'
      have kept : ∀ b o, b ∉ cs.map (·.2) → s.heap.get? b = some o → s'.heap.get? b = some o := fun b o nb e => by
        cases q : heap0 a (scr us) xs (cs.map (·.2)) b with
        | none => exact un.keep b o e q (by intro z; exact absurd (show b ∈ ([] : List Addr) from z) (by simp)) (by simp)
        | some u =>
          rcases heap0_some q with ⟨rfl, rfl⟩ | ⟨hb, _⟩
          · obtain ⟨e2, _⟩ := hok' _ _ (un.frzs _ _ _ q)
            rw [C.at_] at e
            cases e
            exact e2
          · exact absurd hb nb
      have more : ∀ p ∈ cs, ∃ z : Array Value, s'.heap.get? p.2 = some { cls := .none, data := .fields z } := fun p hp => by
        obtain ⟨z, y⟩ := un.tbls p.2 #[] (C.tbl hp)
        exact ⟨_, hok' p.2 _ y⟩
      refine ⟨rfl, ⟨fun b o e => ?_, fun b o e => ?_⟩, os, bare⟩
      · by_cases hb : b ∈ cs.map (·.2)
        · obtain ⟨p, hp, rfl⟩ := List.mem_map.mp hb
          obtain ⟨z, hz⟩ := more p hp
          have e' := e
          rw [C.tab p hp] at e'
          cases e'
          exact .inr (.inl ⟨((C.hd p hp).tab (C.tab p hp)).isCodeTable, rfl, #[], z, rfl, by rw [Array.empty_append]; exact hz⟩)
        · exact .inl (kept b o hb e)
      · by_cases hb : b ∈ cs.map (·.2)
        · obtain ⟨p, hp, rfl⟩ := List.mem_map.mp hb
          obtain ⟨z, hz⟩ := more p hp
          exact ⟨_, hz⟩
        · exact ⟨o, kept b o hb e⟩
end
/-- a law's walk, from the promise of its own def at the call -/
theorem walk_law {l : PySem.W.OpenLaw} {n : Nat} {q : Program} {loose : List Str} {XP : (Str → Option Value) → Heap → Prop} {YP : World → Heap → Prop} {d : DefRec} (hn : l.most = some n) (hn2 : n ≤ sizeLine) (hdf : d.params.defaults = [])
    (F : ∀ (w : World) (mg : Str → Option Value) (fa : Addr) (h : Heap), YP w h → h.Ns mainGlobals mg → mg d.name = some (.ref fa) → ∃ (K : PySem.W.Frag) (cs : List (Addr × Addr)), K.In h ∧ (∀ p ∈ cs, h.get? p.2 = some { cls := .none, data := .fields #[] }) ∧ (∀ p ∈ cs, K.lookup p.2 = none) ∧
      (∀ p ∈ cs, PySem.W.CodeHd h p.1 p.2) ∧ (∀ b us, h.get? b = some (scr us) → K.lookup b = none) ∧
      ∀ (base : Heap) (s : Shared) (H : Hp) (a : Addr) (us : List Value) (ns : List Int), Env0 l.prog w K mg base callerA [] s H → (∀ p ∈ cs, TabB base mg p.1 p.2) → (∀ p ∈ cs, H p.2 = some (.tbl #[])) → H a = some (.frz (scr us) (.lst (ns.map V.int))) → ns.length ≤ n → (∀ z ∈ ns, Builtin.Int.intBits z ≤ 1048576) →
        codeAny (model l.prog w) callerA (.call (.ref fa) ⟨[.ref a], []⟩) (CR (L2.CX l.prog w) [] l.prog w H s (fun v _ => v = .bl true) (fun _ _ _ => False)) s) :
    PySem.W.WalkO q loose XP YP l.row.toRowW d [] (fun f vs => PySem.call f vs) := by
  refine Att.attach_callB hn hdf fun w s₀ s₁ mg mb fa o pm cd doc a vs ns G Y ho hd hcd hmg hobj hints hlen hbits hg => ?_
  obtain ⟨K, cs, KX, hT, nT, hC, hA, run⟩ := F w mg fa _ Y G.T.g hmg
  have C : Called l.prog w K mg cs s₁ a vs := ⟨KX, G.T.g, ⟨mb, G.T.b, G.T.builtins⟩, G.T.nolimit, hg, hT, nT, hC, G.T.bmain, hobj, hA a vs hobj⟩
  have hv : Vals (ns.map V.int) vs := vals_ints hints
  have hl : (ns.map V.int).length ≤ sizeLine := by rw [List.length_map]; exact Nat.le_trans hlen hn2
  exact codeAny_mono (run _ s₁ _ a vs ns (C.env0 hv hl) C.tB (fun p hp => C.tbl hp) heap0_at hlen hbits) fun r s' h => C.fin hv hl h
end Fx

set_option Elab.async false
set_option linter.all false
set_option maxRecDepth 100000
set_option maxHeartbeats 2000000
/-! Fx45: a whole law: its data, its check, its promise. -/
namespace Fx
open PySem PySem.Spec PyProof.Rows L2 NdefX LamX
/-- a def: its text, its names, our text -/
structure DD where
  name : Str
  params : Arguments
  body : List Stmt
  scope : Scope
  ps : List Str
  N : List Str
  ir : Ss
  nm : Option (Nat → Nat → Str) := none
/-- a made function -/
structure CD where
  ci : CI
  ir : Ss
structure LD where
  ds : List DD
  cls : List CD
  nums : List (Str × Int)
  txts : List (Str × Str)
  tups : List (Str × List PyData)
  fre : List Str
def DD.d (d : DD) : He.DefD := ⟨(d.name, none), d.name, d.name, d.params, d.body, d.scope, [], []⟩
def DD.fn (d : DD) : Fn := ⟨d.N.length, d.ps.length, d.ir⟩
def CD.fn (c : CD) : Fn := ⟨c.ci.N.length, c.ci.ps.length + c.ci.fr.length, c.ir⟩
namespace LD
variable (L : LD)
def find (f : Str) : Option DD := L.ds.find? fun d => decide (d.name = f)
def glo (x : Str) : Option PyData := match L.nums.lookup x with
  | some i => some (.int i)
  | none => (L.txts.lookup x).map .str
def prog : Prog := ⟨fun f => (L.find f).map DD.fn, fun k => (L.cls[k]?).map CD.fn, L.glo, fun x => L.tups.lookup x⟩
def gs : Gs := ⟨fun x => (L.glo x).isSome, fun x => (L.tups.lookup x).isSome, fun f => (L.find f).map (·.ps), L.fre, fun k => (L.cls[k]?).map (·.ci)⟩
end LD
def fdOf (K : PySem.W.Frag) (f : Str) : Option FuncData := match K.lookup (He.fAd K (f, none)) with
  | some ⟨_, _, .func fd, _⟩ => some fd
  | _ => none
def tabs (L : LD) (K : PySem.W.Frag) : List NTab := L.ds.filterMap fun d => d.nm.map fun nm => ((He.cT K (d.name, none)).2, nm)
def LD.gc (L : LD) (K : PySem.W.Frag) : Gc := ⟨tabs L K, L.prog, fun k => (L.cls[k]?).map (·.ci), fun f => (L.find f).map fun _ => He.fAd K (f, none), fun f => (L.find f).bind fun d => (fdOf K f).map fun fd => ⟨fd, d.ps⟩, L.fre⟩
/-! ### the checks -/
def fscB (N P : List Str) (sc : Scope) : Bool := decide (sc.kind = .function) && !sc.isCoroutine && !sc.isGenerator && decide N.Nodup && decide (N.take P.length = P) && P.all (fun x => decide (sc.names.lookup x = some .local) || decide (sc.names.lookup x = some .cell)) && sc.names.all fun y => !decide (y.2 = .free)
theorem fscB_ok {N P : List Str} {sc : Scope} (h : fscB N P sc = true) : FnScope N P sc := by
  unfold fscB at h
  simp only [Bool.and_eq_true, decide_eq_true_eq, Bool.not_eq_true', List.all_eq_true, Bool.or_eq_true, decide_eq_false_iff_not] at h
  obtain ⟨⟨⟨⟨⟨⟨h1, h2⟩, h3⟩, h4⟩, h5⟩, h6⟩, h7⟩ := h
  exact ⟨h1, h2, h3, h4, h5, h6, h7⟩
def DD.ct (d : DD) : Ct := ⟨d.N, d.scope, fun _ => true, qualIn d.name d.scope, d.nm⟩
def DD.ok (G : Gs) (d : DD) : Bool := plainB d.params d.ps && decide d.ps.Nodup && fscB d.N d.ps d.scope && okSs G d.ir d.ct d.body
def CD.ct (c : CD) : Ct := ⟨c.ci.N, c.ci.scope, fun _ => false, "", none⟩
def CD.ok (G : Gs) (c : CD) : Bool := plainB c.ci.params c.ci.ps && decide c.ci.ps.Nodup && nscB c.ci.N c.ci.ps c.ci.fr c.ci.scope && (match c.ci.body with
  | .stmts sb => okSs G c.ir c.ct sb
  | .expr e => (match c.ir with
    | .cons (.ret a) .nil => okE G a false c.ct e
    | _ => false))
def LD.ok (L : LD) : Bool := L.ds.all (DD.ok L.gs) && L.cls.all (CD.ok L.gs) && L.txts.all (fun p => PyData.strOk p.2 && decide (p.2.length ≤ sizeLine)) && L.tups.all (fun p => p.2.all fun d => match d with
  | .int _ => true
  | .str x => PyData.strOk x && decide (x.length ≤ sizeLine)
  | _ => false) && decide ((((L.ds.filter fun d => d.nm.isSome).map (·.name)).Nodup))
/-! ### what the head tells -/
def dvOf : PyData → He.Dv
  | .int i => .int i
  | .str x => .str x
  | _ => .non
def LD.fa (L : LD) : List He.Fa := L.ds.map (fun d => .glo d.name) ++ L.tups.map (fun p => .glo p.1) ++ L.fre.map .free ++ L.nums.map (fun p => .int p.1 p.2) ++ L.txts.map (fun p => .str p.1 p.2)
def LD.tf (L : LD) : List He.Defn := L.ds.filterMap fun d => d.nm.map fun _ => (d.name, none)
def noLst (o : PySem.Obj) : Bool := match o.cls with
  | .type c => !decide (c = "list")
  | _ => true
def LD.ex (L : LD) (K : PySem.W.Frag) : Bool := L.tups.all (fun p => He.tupB K p.1 (p.2.map dvOf)) && K.all (fun q => noLst q.2) && decide ((L.tf.map fun p => (He.cT K p).2).Nodup)
abbrev LD.Says (L : LD) (w : World) (h : Heap) (K : PySem.W.Frag) : Prop := He.SaysX L.fa (L.ds.map DD.d) [] L.tf L.ex w h K
section
variable {L : LD} {w : World} {h : Heap} {K : PySem.W.Frag} {mg : Str → Option Value} {base : Heap} {P : Program}
theorem nodup_inj {α β : Type} {f : α → β} : ∀ {l : List α}, (l.map f).Nodup → ∀ {a b : α}, a ∈ l → b ∈ l → f a = f b → a = b
  | [], _, _, _, h, _, _ => by cases h
  | x :: r, h, a, b, ha, hb, e => by
    rw [List.map_cons, List.nodup_cons] at h
    rcases List.mem_cons.mp ha with h1 | h1
    · rcases List.mem_cons.mp hb with h2 | h2
      · rw [h1, h2]
      · exact (h.1 (List.mem_map.mpr ⟨b, h2, by rw [← e, h1]⟩)).elim
    · rcases List.mem_cons.mp hb with h2 | h2
      · exact (h.1 (List.mem_map.mpr ⟨a, h1, by rw [e, h2]⟩)).elim
      · exact nodup_inj h.2 h1 h2 e
theorem find_some {f : Str} {d : DD} (e : L.find f = some d) : d ∈ L.ds ∧ d.name = f := by
  unfold LD.find at e
  exact ⟨List.mem_of_find?_eq_some e, by simpa using List.find?_some e⟩
theorem fact_of (S : L.Says w h K) {f : He.Fa} (hf : f ∈ L.fa) : f.ok K = true := S.t.d.facts hf
theorem glo_of (S : L.Says w h K) (KX : K.In h) (G : h.Ns mainGlobals mg) {d : DD} (hd : d ∈ L.ds) : mg d.name = some (.ref (He.fAd K (d.name, none))) :=
  He.glo_ok KX G (fact_of S (by unfold LD.fa; simp only [List.mem_append, List.mem_map]; exact .inl (.inl (.inl (.inl ⟨d, hd, rfl⟩)))))
theorem def_of (S : L.Says w h K) {d : DD} (hd : d ∈ L.ds) : ∃ fd, FunD K d.name d.name d.params d.body d.scope [] [] (He.fAd K (d.name, none)) fd := S.t.d.defs (List.mem_map.mpr ⟨d, hd, rfl⟩)
theorem lookup_mem' {α : Type} {x : Str} {v : α} : ∀ {l : List (Str × α)}, l.lookup x = some v → (x, v) ∈ l
  | [], h => by cases h
  | (y, u) :: r, h => by
    rw [List.lookup_cons] at h
    cases q : x == y with
    | true => rw [q] at h; cases h; rw [eq_of_beq q]; exact List.mem_cons_self ..
    | false => rw [q] at h; exact List.mem_cons_of_mem _ (lookup_mem' h)
theorem tup_pl {K' : Pw} {H : Hp} : ∀ {ds : List PyData}, (∀ y ∈ ds, (match y with
    | .int _ => true
    | .str x => PyData.strOk x && decide (x.length ≤ sizeLine)
    | _ => false) = true) → PlA K' H ((ds.map dvOf).map (He.Dv.v K)) ds
  | [], _ => .nil
  | d :: ds, ok => by
    refine .cons ?_ (tup_pl fun y hy => ok y (List.mem_cons_of_mem _ hy))
    have o1 := ok d (List.mem_cons_self ..)
    cases d with
    | int i => exact .int i
    | str z =>
      simp only [Bool.and_eq_true, decide_eq_true_eq] at o1
      exact .str z o1.1 o1.2
    | _ => cases o1
theorem gx_of (hok : L.ok = true) (S : L.Says w h K) (KX : K.In h) (G : h.Ns mainGlobals mg) (X : Cx) (hK : X.K = K) (hm : X.mg = mg) : GX (L.gc K) X where
  fn := fun f a e => by
    unfold LD.gc at e
    simp only [Option.map_eq_some_iff] at e
    obtain ⟨d, e1, rfl⟩ := e
    obtain ⟨hd, rfl⟩ := find_some e1
    obtain ⟨fd, F⟩ := def_of S hd
    rw [hK, hm]
    exact ⟨glo_of S KX G hd, F.kp⟩
  glo := fun x d e => by
    rw [hm]
    have e : L.glo x = some d := e
    unfold LD.glo at e
    cases q : L.nums.lookup x with
    | some i =>
      rw [q] at e
      cases e
      obtain ⟨t, ht⟩ := He.int_ok KX G (x := x) (i := i) (fact_of S (by unfold LD.fa; simp only [List.mem_append, List.mem_map]; exact .inl (.inr ⟨(x, i), lookup_mem' q, rfl⟩)))
      exact ⟨_, .int i, ht, ⟨t, rfl⟩, fun H => .int i⟩
    | none =>
      rw [q] at e
      have e : (L.txts.lookup x).map PyData.str = some d := e
      obtain ⟨z, hz, rfl⟩ := Option.map_eq_some_iff.mp e
      have hm' := lookup_mem' hz
      obtain ⟨t, ht⟩ := He.str_ok KX G (x := x) (z := z) (fact_of S (by unfold LD.fa; simp only [List.mem_append, List.mem_map]; exact .inr ⟨(x, z), hm', rfl⟩))
      unfold LD.ok at hok
      simp only [Bool.and_eq_true, List.all_eq_true, decide_eq_true_eq] at hok
      obtain ⟨h1, h2⟩ := hok.1.1.2 _ hm'
      exact ⟨_, .str z, ht, ⟨t, rfl⟩, fun H => .str z h1 h2⟩
  glt := fun x ds e => by
    rw [hm, hK]
    have e : L.tups.lookup x = some ds := e
    have hm' := lookup_mem' e
    have g := He.glo_ok KX G (x := x) (fact_of S (by unfold LD.fa; simp only [List.mem_append, List.mem_map]; exact .inl (.inl (.inl (.inr ⟨(x, ds), hm', rfl⟩)))))
    have ex := S.more
    unfold LD.ex at ex
    simp only [Bool.and_eq_true, List.all_eq_true] at ex
    have tb := ex.1.1 _ hm'
    refine ⟨_, _, g, fun H => He.tupB_ok tb H, fun H => ?_⟩
    unfold LD.ok at hok
    simp only [Bool.and_eq_true, List.all_eq_true] at hok
    exact tup_pl (hok.1.2 _ hm')
  free := fun x hx => by
    rw [hm]
    exact He.free_ok KX G (fact_of S (by unfold LD.fa; simp only [List.mem_append, List.mem_map]; exact .inl (.inl (.inr ⟨x, hx, rfl⟩))))
theorem fdOf_of {f : Str} {fd : FuncData} {oc : Value} {od : Option Addr} {osl : Array (Option Value)} (lk : K.lookup (He.fAd K (f, none)) = some ⟨oc, od, .func fd, osl⟩) : fdOf K f = some fd := by
  unfold fdOf
  rw [lk]
theorem gsok_of (S : L.Says w h K) : GsOk (L.gc K) L.gs where
  gl := fun x hx => Option.isSome_iff_exists.mp hx
  gt := fun x hx => Option.isSome_iff_exists.mp hx
  fps := fun f ps e => by
    have e : (L.find f).map (·.ps) = some ps := e
    obtain ⟨d, e1, rfl⟩ := Option.map_eq_some_iff.mp e
    obtain ⟨hd, rfl⟩ := find_some e1
    obtain ⟨fd, F⟩ := def_of S hd
    obtain ⟨oc, od, dV, kV, doc, pm, an, cdv, ct, osl, efd, lk, _⟩ := F.ex
    refine ⟨He.fAd K (d.name, none), ⟨fd, d.ps⟩, ?_, ?_, rfl⟩
    · show (L.find d.name).map _ = _
      rw [e1]; rfl
    · show ((L.find d.name).bind fun d' => (fdOf K d.name).map fun fd => (⟨fd, d'.ps⟩ : FI)) = _
      rw [e1, fdOf_of lk]
      rfl
  all := fun g A e => by
    have e : (L.find g).map (fun _ => He.fAd K (g, none)) = some A := e
    obtain ⟨d, e1, rfl⟩ := Option.map_eq_some_iff.mp e
    obtain ⟨hd, rfl⟩ := find_some e1
    obtain ⟨fd, F⟩ := def_of S hd
    obtain ⟨oc, od, dV, kV, doc, pm, an, cdv, ct, osl, efd, lk, _⟩ := F.ex
    refine ⟨⟨fd, d.ps⟩, ?_⟩
    show ((L.find d.name).bind fun d' => (fdOf K d.name).map fun fd => (⟨fd, d'.ps⟩ : FI)) = _
    rw [e1, fdOf_of lk]
    rfl
  fre := fun x hx => hx
  cls := fun k c e => e
theorem Cxt.cn {Γ : Gc} {k : Nat} {N : List Str} {sc : Scope} {fn : Bool} {q : Str} {mi : Option (Addr × (Nat → Nat → Str))} {X : Cx} {nm : Option (Nat → Nat → Str)} (C : Cxt Γ k N sc fn q mi X) (hk : sc.kind = .function) (hm : mi.map (·.2) = nm) : Cn Γ k ⟨N, sc, fun _ => fn, q, nm⟩ X where
  ok := C.ok
  ctr := C.ctr
  hN := C.hN
  hsc := C.hsc
  hk := by rw [C.hsc]; exact hk
  hfn := fun x h => C.hfn h x
  mks := fun f e => by
    subst hm
    cases mi with
    | none => cases e
    | some p =>
      obtain ⟨P, g⟩ := p
      cases e
      exact ⟨C.hq, P, C.mkx P g rfl⟩
theorem Cxt.cn0 {Γ : Gc} {k : Nat} {N : List Str} {sc : Scope} {fn : Bool} {q q' : Str} {X : Cx} (C : Cxt Γ k N sc fn q none X) (hk : sc.kind = .function) : Cn Γ k ⟨N, sc, fun _ => fn, q', none⟩ X where
  ok := C.ok
  ctr := C.ctr
  hN := C.hN
  hsc := C.hsc
  hk := by rw [C.hsc]; exact hk
  hfn := fun x h => C.hfn h x
  mks := fun f e => nomatch e
theorem fi_of {f : Str} {fi : FI} (e : (L.gc K).fi f = some fi) : ∃ d, L.find f = some d ∧ ∃ fd, fdOf K f = some fd ∧ fi = ⟨fd, d.ps⟩ := by
  have e : ((L.find f).bind fun d => (fdOf K f).map fun fd => (⟨fd, d.ps⟩ : FI)) = some fi := e
  obtain ⟨d, e1, e2⟩ := Option.bind_eq_some_iff.mp e
  obtain ⟨fd, e3, e4⟩ := Option.map_eq_some_iff.mp e2
  exact ⟨d, e1, fd, e3, e4.symm⟩
theorem ok_d (hok : L.ok = true) {d : DD} (hd : d ∈ L.ds) : Plain d.params d.ps ∧ d.ps.Nodup ∧ FnScope d.N d.ps d.scope ∧ okSs L.gs d.ir d.ct d.body = true := by
  unfold LD.ok at hok
  simp only [Bool.and_eq_true, List.all_eq_true] at hok
  have := hok.1.1.1.1 d hd
  unfold DD.ok at this
  simp only [Bool.and_eq_true, decide_eq_true_eq] at this
  exact ⟨plain_by this.1.1.1, this.1.1.2, fscB_ok this.1.2, this.2⟩
theorem ok_c (hok : L.ok = true) {c : CD} (hc : c ∈ L.cls) : Plain c.ci.params c.ci.ps ∧ c.ci.ps.Nodup ∧ NScope c.ci.N c.ci.ps c.ci.fr c.ci.scope ∧ (match c.ci.body with
  | .stmts sb => okSs L.gs c.ir c.ct sb
  | .expr e => (match c.ir with
    | .cons (.ret a) .nil => okE L.gs a false c.ct e
    | _ => false)) = true := by
  unfold LD.ok at hok
  simp only [Bool.and_eq_true, List.all_eq_true] at hok
  have := hok.1.1.1.2 c hc
  unfold CD.ok at this
  simp only [Bool.and_eq_true, decide_eq_true_eq] at this
  exact ⟨plain_by this.1.1.1, this.1.1.2, nscope_by this.1.2, this.2⟩
/-- the promise of all defs, at each level -/
theorem ctr_all (hok : L.ok = true) (S : L.Says w h K) (KX : K.In h) (G : h.Ns mainGlobals mg) (TB : ∀ p ∈ L.tf.map (He.cT K), TabB base mg p.1 p.2) : ∀ k, Ctr (L.gc K) P w K mg base k
  | 0 => by
    refine ctr_zero (fun f fi e => ?_) (fun c ci e => ?_)
    · obtain ⟨d, e1, fd, e2, rfl⟩ := fi_of e
      obtain ⟨hd, rfl⟩ := find_some e1
      obtain ⟨p1, p2, p3, _⟩ := ok_d hok hd
      obtain ⟨fd', F⟩ := def_of S hd
      obtain ⟨oc, od, dV, kV, doc, pm, an, cdv, ct, osl, rfl, lk, _, hdf, _⟩ := F.ex
      rw [fdOf_of lk] at e2
      cases e2
      refine ⟨p1, ?_, p2, fun fn hfn => ?_⟩
      · show dV = .none
        rcases hdf with ⟨_, z⟩ | ⟨z, _⟩
        · exact z
        · exact absurd rfl z
      · have hfn : (L.find d.name).map DD.fn = some fn := hfn
        rw [e1] at hfn
        cases hfn
        rfl
    · have e : (L.cls[c]?).map (·.ci) = some ci := e
      obtain ⟨cd, e1, rfl⟩ := Option.map_eq_some_iff.mp e
      obtain ⟨p1, p2, _⟩ := ok_c hok (List.mem_of_getElem? e1)
      refine ⟨p1, p2, fun fn hfn => ?_⟩
      have hfn : (L.cls[c]?).map CD.fn = some fn := hfn
      rw [e1] at hfn
      cases hfn
      rfl
  | k + 1 => by
    refine ctr_step (ctr_all hok S KX G TB k) (fun X _ _ h1 h2 => gx_of hok S KX G X h1 h2) (fun f a fi ha hf => ?_) (fun c ci e => ?_)
    · obtain ⟨d, e1, fd, e2, rfl⟩ := fi_of hf
      obtain ⟨hd, rfl⟩ := find_some e1
      obtain ⟨p1, p2, p3, p4⟩ := ok_d hok hd
      obtain ⟨fd', F⟩ := def_of S hd
      obtain ⟨oc, od, dV, kV, doc, pm, an, cdv, ct, osl, efd, lk, hcd, _⟩ := F.ex
      rw [fdOf_of lk] at e2
      cases e2
      have ha : (L.find d.name).map (fun _ => He.fAd K (d.name, none)) = some a := ha
      rw [e1] at ha
      cases ha
      refine ⟨⟨d.name, d.name, d.params, d.body, d.scope, dV, kV, doc, pm, an, cdv, ct, oc, od, osl⟩, d.N, d.fn, d.nm.map fun nm => ((He.cT K (d.name, none)).2, nm), ⟨?_, efd, hcd, p3, ?_, rfl, rfl, fun P' nm' em => ?_, fun X C => ?_⟩⟩
      · rw [lk, efd]; rfl
      · show (L.find d.name).map DD.fn = _
        rw [e1]; rfl
      · obtain ⟨nm, en, ep⟩ := Option.map_eq_some_iff.mp em
        cases ep
        have hmem : (d.name, (none : Option Str)) ∈ L.tf := by
          unfold LD.tf
          exact List.mem_filterMap.mpr ⟨d, hd, by rw [en]; rfl⟩
        obtain ⟨cc, hcc⟩ := He.codeIn_ref hcd
        have hco : He.codeOf K (d.name, none) = cc := He.codeOf_eq lk (by rw [efd]; exact hcc)
        refine ⟨⟨cc, hcc, ?_⟩, List.mem_filterMap.mpr ⟨d, hd, by rw [en]; rfl⟩, fun p hp he => ?_⟩
        · have t := TB (He.cT K (d.name, none)) (List.mem_map.mpr ⟨_, hmem, rfl⟩)
          have e5 : (He.cT K (d.name, none)).1 = cc := hco
          rw [e5] at t
          exact t
        · obtain ⟨d2, hd2, e3⟩ := List.mem_filterMap.mp hp
          obtain ⟨nm2, en2, rfl⟩ := Option.map_eq_some_iff.mp e3
          have ex := S.more
          unfold LD.ex at ex
          simp only [Bool.and_eq_true, decide_eq_true_eq] at ex
          have hmem2 : (d2.name, (none : Option Str)) ∈ L.tf := by
            unfold LD.tf
            exact List.mem_filterMap.mpr ⟨d2, hd2, by rw [en2]; rfl⟩
          have e6 := nodup_inj ex.2 hmem2 hmem he
          have e7 : d2.name = d.name := congrArg Prod.fst e6
          have hok2 := hok
          unfold LD.ok at hok2
          simp only [Bool.and_eq_true, decide_eq_true_eq] at hok2
          have e8 : d2 = d := nodup_inj hok2.2 (List.mem_filter.mpr ⟨hd2, by rw [en2]; rfl⟩) (List.mem_filter.mpr ⟨hd, by rw [en]; rfl⟩) e7
          subst e8
          rw [en] at en2
          cases en2
          rfl
      · exact sSs (gsok_of S) d.ir d.ct X d.body (C.cn p3.kind (by rw [Option.map_map]; cases d.nm <;> rfl)) p4
    · have e : (L.cls[c]?).map (·.ci) = some ci := e
      obtain ⟨cd, e1, rfl⟩ := Option.map_eq_some_iff.mp e
      obtain ⟨p1, p2, p3, p4⟩ := ok_c hok (List.mem_of_getElem? e1)
      refine ⟨cd.fn, p3, ?_, rfl, rfl, ?_⟩
      · show (L.cls[c]?).map CD.fn = _
        rw [e1]; rfl
      · cases eb : cd.ci.body with
        | stmts sb =>
          rw [eb] at p4
          intro q X C
          exact sSs (gsok_of S) cd.ir cd.ct X sb (C.cn0 p3.kind) p4
        | expr ee =>
          rw [eb] at p4
          have p4 : (match cd.ir with
            | .cons (.ret a) .nil => okE L.gs a false cd.ct ee
            | _ => false) = true := p4
          split at p4
          · rename_i a ea
            refine ⟨a, ea, fun q X C => ?_⟩
            exact sE (gsok_of S) a false cd.ct X ee (C.cn0 p3.kind) p4
          · cases p4
end
end Fx

set_option Elab.async false
set_option linter.all false
set_option maxRecDepth 100000
set_option maxHeartbeats 2000000
/-! Fx46: from what our text of the law gives to the walk of the claim. -/
namespace Fx
open PySem PySem.Spec PyProof.Rows L2 NdefX LamX
theorem room_top {N : Nat} (h : N ≤ 80) : Room (2 * N) callerA := by
  refine ⟨rfl, ?_, ?_⟩
  · show 1 + claimMargin + 3 * (2 * N) + 5 < recursionLimit
    have e1 : claimMargin + 600 < recursionLimit := by decide +kernel
    omega
  · show 4 + 16 * (2 * N) + 200 < cLine
    have e2 : cLine = 9900 := rfl
    omega
def Hs0 (a : Addr) (so : PySem.Obj) (xs : List V) : Hp := fun b => if b = a then some (.frz so (.lst xs)) else none
theorem rel0 {T : List NTab} {K : Pw} {H : Hp} {a : Addr} {so : PySem.Obj} {xs : List V} (ha : H a = some (.frz so (.lst xs))) (hT : ∀ p ∈ T, H p.1 = some (.tbl #[])) : Rel T K ⟨fun _ => 0, Hs0 a so xs⟩ H [] where
  sub := fun b o e => by
    have e : (if b = a then some (.frz so (.lst xs)) else none : Option HO) = some o := e
    by_cases z : b = a
    · rw [if_pos z] at e; cases e; rw [z]; exact .inl ha
    · rw [if_neg z] at e; cases e
  cel := fun l c e _ => by cases e
  inj := fun l m h _ _ => by obtain ⟨c, e, _⟩ := h; cases e
  tab := fun p hp => TabN.nil (hT p hp)
theorem pla_ints' {K : Pw} {H : Hp} : ∀ ns : List Int, PlA K H (ns.map V.int) (ns.map PyData.int)
  | [] => .nil
  | n :: ns => .cons (.int n) (pla_ints' ns)
theorem fx_walk {l : PySem.W.OpenLaw} {n N kk : Nat} {q : Program} {loose : List Str} {XP : (Str → Option Value) → Heap → Prop} {d : DefRec} {x : Str} (L : LD) (hok : L.ok = true) (hm : l.most = some n) (hn2 : n ≤ 1000) (hdf : d.params.defaults = []) (hname : d.name = ("law" : Str))
    (hfind : (L.find ("law" : Str)).map (·.ps) = some [x]) (hN : N ≤ 80)
    (plain : ∀ ns : List Int, ns.length ≤ n → (∀ z ∈ ns, Builtin.Int.intBits z ≤ 1048576) → ∃ st', (tbl L.prog N).fn ("law" : Str) [.d (.list (ns.map PyData.int))] [] = .ok (.d (.bool true)) st') :
    PySem.W.WalkO q loose XP (fun w h => (He.hookX kk L.fa (L.ds.map DD.d) [] L.tf L.ex).says w h) l.row.toRowW d [] (fun f vs => PySem.call f vs) := by
  refine walk_law hm (by rw [sizeLine_eq]; omega) hdf fun w mg fa h Y G hmg => ?_
  obtain ⟨K, KX, S⟩ := Y
  obtain ⟨dl, e1, e2⟩ := Option.map_eq_some_iff.mp hfind
  obtain ⟨hd, hnm⟩ := find_some e1
  refine ⟨K, L.tf.map (He.cT K), KX, fun p hp => ?_, fun p hp => ?_, fun p hp => ?_, fun b us hb => ?_, fun base s H a us ns E0 TB HT Ha hlen hbits => ?_⟩
  · obtain ⟨t, ht, rfl⟩ := List.mem_map.mp hp
    exact S.empty t ht
  · obtain ⟨t, ht, rfl⟩ := List.mem_map.mp hp
    exact S.out t ht
  · obtain ⟨t, ht, rfl⟩ := List.mem_map.mp hp
    exact PySem.W.codeHd_of_K KX (S.hd t ht)
  · cases e : K.lookup b with
    | none => rfl
    | some o =>
      have h1 := KX b o e
      rw [hb] at h1
      cases h1
      have ex := S.more
      unfold LD.ex at ex
      simp only [Bool.and_eq_true, List.all_eq_true] at ex
      have := ex.1.2 _ (He.lookup_mem e)
      cases this
  · have C := ctr_all (P := l.prog) (base := base) hok S KX G TB N
    have g1 := glo_of S KX G hd
    rw [hnm] at g1
    rw [hname] at hmg
    rw [hmg] at g1
    cases g1
    obtain ⟨fd, F⟩ := def_of S hd
    obtain ⟨oc, od, dV, kV, doc, pm, an, cdv, ct, osl, efd, lk, _⟩ := F.ex
    have ha : (L.gc K).ad ("law" : Str) = some (He.fAd K (("law" : Str), none)) := by
      show (L.find _).map _ = _
      rw [e1]; rfl
    have hf : (L.gc K).fi ("law" : Str) = some ⟨fd, dl.ps⟩ := by
      show ((L.find _).bind fun d' => (fdOf K _).map fun fd => (⟨fd, d'.ps⟩ : FI)) = _
      rw [hnm] at lk
      rw [e1, fdOf_of lk]
      rfl
    obtain ⟨q1, q2, q3, q4⟩ := C.fi _ _ hf
    have hb : bindArgs fd ⟨[.ref a], []⟩ = pure (dl.ps.zip [.ref a]) := bind_pos q1 q2 q3 (by show 1 = dl.ps.length; rw [e2]; rfl)
    obtain ⟨st', ev⟩ := plain ns hlen hbits
    refine C.fn _ _ _ ha hf callerA [] s H ⟨[.ref a], []⟩ [.ref a] [.ref a] [.d (.list (ns.map PyData.int))] ⟨fun _ => 0, Hs0 a (scr us) (ns.map V.int)⟩ [] _ _ (room_top hN) rfl E0 (.of_eq hb) (.cons rfl .nil) (rel0 Ha fun p hp => ?_) (.cons ?_ .nil) ?_
    · obtain ⟨d2, hd2, e3⟩ := List.mem_filterMap.mp hp
      obtain ⟨nm2, en2, rfl⟩ := Option.map_eq_some_iff.mp e3
      refine HT (He.cT K (d2.name, none)) (List.mem_map.mpr ⟨_, ?_, rfl⟩)
      unfold LD.tf
      exact List.mem_filterMap.mpr ⟨d2, hd2, by rw [en2]; rfl⟩
    · refine Rp.pl (.lst (xs := ns.map V.int) (.inr ⟨scr us, if_pos rfl⟩) ?_ (pla_ints' ns))
      rw [List.length_map, sizeLine_eq]
      omega
    · rw [show (L.gc K).p = L.prog from rfl, ev]
      intro b W' H' _ _ r
      cases r with
      | pl h => cases h; rfl
end Fx
namespace Fx
open PySem
/-! ### where a made function's text stands -/
structure C3 where
  a : Arguments
  b : FuncBody
  s : Scope
def lamE : Nat → Nat → Nat → Expr → Option C3
  | 0, _, _, _ => none
  | n + 1, l, c, e => match e with
    | .Lambda a b s p => if p.line = l ∧ p.col = c then some ⟨a, .expr b, s⟩ else lamE n l c b
    | .BoolOp _ xs _ => xs.findSome? (lamE n l c)
    | .BinOp x _ y _ => (lamE n l c x).or (lamE n l c y)
    | .UnaryOp _ x _ => lamE n l c x
    | .IfExp x y z _ => ((lamE n l c x).or (lamE n l c y)).or (lamE n l c z)
    | .Dict _ vs _ => vs.findSome? (lamE n l c)
    | .Compare x _ ys _ => (lamE n l c x).or (ys.findSome? (lamE n l c))
    | .Call f xs ks _ => ((lamE n l c f).or (xs.findSome? (lamE n l c))).or (ks.findSome? fun k => lamE n l c k.value)
    | .Attribute x _ _ => lamE n l c x
    | .Subscript x y _ => (lamE n l c x).or (lamE n l c y)
    | .Starred x _ => lamE n l c x
    | .List xs _ => xs.findSome? (lamE n l c)
    | .Tuple xs _ _ => xs.findSome? (lamE n l c)
    | .ListComp x gs _ _ => (lamE n l c x).or (gs.findSome? fun g => (lamE n l c g.iter).or (g.ifs.findSome? (lamE n l c)))
    | _ => none
def lamS : Nat → Nat → Nat → Stmt → Option C3
  | 0, _, _, _ => none
  | n + 1, l, c, s => match s with
    | .FunctionDef _ a b _ _ _ sc _ _ p => if p.line = l ∧ p.col = c then some ⟨a, .stmts b, sc⟩ else b.findSome? (lamS n l c)
    | .Return (some x) _ => lamE 40 l c x
    | .Assign ts v _ => (lamE 40 l c v).or (ts.findSome? (lamE 40 l c))
    | .AugAssign _ _ v _ => lamE 40 l c v
    | .For _ it b _ _ => (lamE 40 l c it).or (b.findSome? (lamS n l c))
    | .While t b _ _ => (lamE 40 l c t).or (b.findSome? (lamS n l c))
    | .If t a b _ => ((lamE 40 l c t).or (a.findSome? (lamS n l c))).or (b.findSome? (lamS n l c))
    | .Expr x _ => lamE 40 l c x
    | .Try b hs _ _ _ => b.findSome? (lamS n l c)
    | _ => none
def lamCI (s : Stmt) (l c : Nat) (N ps fr : List Str) : CI := match lamS 30 l c s with
  | some z => ⟨N, ps, fr, z.a, z.b, z.s⟩
  | none => ⟨N, ps, fr, ⟨[], [], none, [], [], none, []⟩, .stmts [], ⟨.function, [], false, false, []⟩⟩
end Fx

set_option Elab.async false
set_option linter.all false
set_option maxRecDepth 100000
set_option maxHeartbeats 1000000
/-! Fy1: plain reasoning about what our texts give: a run that gives something, rule by rule. -/
namespace Fx
open PySem
/-! ### a run that gives something -/
/-- keeps what is wished out of simp's sight -/
def Lk {α : Type} (Q : α → Sto → Prop) : Type := Unit
def lk {α : Type} {Q : α → Sto → Prop} : Lk Q := Unit.unit
def Ev {α : Type} (o : Out α) (Q : α → Sto → Prop) (u : Lk Q := lk) : Prop := match o with
  | .ok a s => Q a s
  | _ => False
section
variable {α β : Type}
theorem Ev_bind {m : M α} {f : α → M β} {s : Sto} {Q : β → Sto → Prop} {u : Lk Q} : Ev (M.bind m f s) Q u = Ev (m s) fun a s' => Ev (f a s') Q := by
  unfold M.bind Ev
  cases m s <;> rfl
theorem Ev_pure {a : α} {s : Sto} {Q : α → Sto → Prop} {u : Lk Q} : Ev (M.pure a s) Q u = Q a s := rfl
theorem Ev_ok {a : α} {s : Sto} {Q : α → Sto → Prop} {u : Lk Q} : Ev (.ok a s) Q u = Q a s := rfl
theorem Ev_calm {m : M α} {s : Sto} {Q : α → Sto → Prop} {u : Lk Q} : Ev (M.calm m s) Q u = Ev (m s) Q := by
  unfold M.calm Ev
  cases m s <;> rfl
theorem Ev.imp {o : Out α} {Q Q' : α → Sto → Prop} {u : Lk Q} {u' : Lk Q'} (h : Ev o Q u) (k : ∀ a s, Q a s → Q' a s) : Ev o Q' u' := by
  cases o with
  | ok a s => exact k a s h
  | _ => exact h
theorem Ev.ex {o : Out α} {Q : α → Sto → Prop} {u : Lk Q} (h : Ev o Q u) : ∃ a s, o = .ok a s ∧ Q a s := by
  cases o with
  | ok a s => exact ⟨a, s, rfl, h⟩
  | _ => exact h.elim
theorem Ev.of {o : Out α} {Q : α → Sto → Prop} {u : Lk Q} {a : α} {s : Sto} (e : o = .ok a s) (h : Q a s) : Ev o Q u := by rw [e]; exact h
theorem Ev.is {o : Out α} {a : α} {s : Sto} {u} (h : Ev o (fun b t => b = a ∧ t = s) u) : o = .ok a s := by
  cases o with
  | ok b t => obtain ⟨rfl, rfl⟩ := h; rfl
  | _ => exact h.elim
theorem Ev_if {c : Bool} {m m' : M α} {s : Sto} {Q : α → Sto → Prop} {u : Lk Q} : Ev ((if c = true then m else m') s) Q u = if c = true then Ev (m s) Q else Ev (m' s) Q := by cases c <;> rfl
theorem Ev_ifP {c : Prop} [Decidable c] {m m' : M α} {s : Sto} {Q : α → Sto → Prop} {u : Lk Q} : Ev ((if c then m else m') s) Q u = if c then Ev (m s) Q else Ev (m' s) Q := by
  by_cases h : c
  · rw [if_pos h, if_pos h]; rfl
  · rw [if_neg h, if_neg h]; rfl
end
section
variable {α β : Type}
theorem Ev_bindc {m : M α} {f : α → M β} {s : Sto} {Q : β → Sto → Prop} {u : Lk Q} {G : α → Sto → Prop} (h : ∀ a s', Ev (f a s') Q = G a s') : Ev (M.bind m f s) Q u = Ev (m s) G := by
  rw [Ev_bind]
  have e : (fun a s' => Ev (f a s') Q) = G := by funext a s'; exact h a s'
  rw [e]
theorem Ev_bindcc {m : M α} {f : α → M β} {s : Sto} {Q : β → Sto → Prop} {u : Lk Q} {G : α → Sto → Prop} (h : ∀ a s', Ev (f a s') Q = G a s') : Ev (M.bind (M.calm m) f s) Q u = Ev (m s) G := by
  rw [Ev_bindc h, Ev_calm]
theorem Ev_calmc {m : M α} {s : Sto} {Q G : α → Sto → Prop} {u : Lk Q} (h : Ev (m s) Q = Ev (m s) G) : Ev (M.calm m s) Q u = Ev (m s) G := by rw [Ev_calm]; exact h
theorem Ev_ifc {c : Bool} {m m' : M α} {s : Sto} {Q : α → Sto → Prop} {u : Lk Q} {X Y : Prop} (h1 : Ev (m s) Q = X) (h2 : Ev (m' s) Q = Y) : Ev ((if c = true then m else m') s) Q u = if c = true then X else Y := by rw [Ev_if, h1, h2]
theorem Ev_ifPc {c : Prop} [Decidable c] {m m' : M α} {s : Sto} {Q : α → Sto → Prop} {u : Lk Q} {X Y : Prop} (h1 : Ev (m s) Q = X) (h2 : Ev (m' s) Q = Y) : Ev ((if c then m else m') s) Q u = if c then X else Y := by rw [Ev_ifP, h1, h2]
end
/-! ### statements one behind another -/
def seqQ (Φ : Tbl) (ss : Ss) (Q : Fl → Sto → Prop) (w : Fl) (s : Sto) : Prop := match w with
  | .nx ε => Ev (evSs Φ ss ε s) Q
  | w => Q w s
def retQ (Q : Val → Sto → Prop) (w : Fl) (s : Sto) : Prop := match w with
  | .rt v => Ev (noC v s) Q
  | .nx _ => Q (.d .none) s
  | _ => False
def notB (v : Val) (s : Sto) (Q : Val → Sto → Prop) : Prop := Ev (bln v s) fun b s => Q (.d (.bool (!b))) s
def binV (op : Operator) (v w : Val) : M Val := M.bind (vw v) fun x => M.bind (vw w) fun y => binD op x y
section
variable {Φ : Tbl} {ε : Env} {s : Sto} {a b c d : E} {es : Es} {Q : Val → Sto → Prop} {R : Fl → Sto → Prop}
theorem r_runF {n p : Nat} {i : Ss} {vs : List Val} {u : Lk Q} (h : vs.length = p) : Ev (runF Φ ⟨n, p, i⟩ vs s) Q u = Ev (evSs Φ i (startE n vs) s) (retQ Q) := by
  unfold runF
  rw [if_pos h, Ev_bind]
  congr 1
  funext w s
  cases w <;> rfl
/-- the rules of the texts -/
theorem fxS : (∀ Φ ε s (R : Fl → Sto → Prop) (u : Lk R), Ev (evSs Φ .nil ε s) R u = R (.nx ε) s) ∧
    (∀ Φ ε s x ss (R : Fl → Sto → Prop) (u : Lk R), Ev (evSs Φ (.cons x ss) ε s) R u = Ev (evS Φ x ε s) (seqQ Φ ss R)) ∧
    (∀ Φ ss ε s (R : Fl → Sto → Prop), seqQ Φ ss R (.nx ε) s = Ev (evSs Φ ss ε s) R) ∧
    (∀ Φ ss v s (R : Fl → Sto → Prop), seqQ Φ ss R (.rt v) s = R (.rt v) s) ∧
    (∀ Φ ss ε s (R : Fl → Sto → Prop), seqQ Φ ss R (.bk ε) s = R (.bk ε) s) ∧
    (∀ Φ ss ε s (R : Fl → Sto → Prop), seqQ Φ ss R (.ct ε) s = R (.ct ε) s) ∧
    (∀ ε s (Q : Val → Sto → Prop), retQ Q (.nx ε) s = Q (.d .none) s) ∧
    (∀ x s (Q : Val → Sto → Prop), retQ Q (.rt (.d x)) s = Q (.d x) s) ∧
    (∀ l s (Q : Val → Sto → Prop), retQ Q (.rt (.o l)) s = Q (.o l) s) ∧
    (∀ Φ a ε s (R : Fl → Sto → Prop) (u : Lk R), Ev (evS Φ (.ex a) ε s) R u = Ev (evE Φ a ε s) fun _ s => R (.nx ε) s) ∧
    (∀ Φ i a ε s (R : Fl → Sto → Prop) (u : Lk R), Ev (evS Φ (.asg (.nm i) a) ε s) R u = Ev (evE Φ a ε s) fun v s => Ev (noC v s) fun v s => R (.nx (setE ε i v)) s) ∧
    (∀ Φ ts a ε s (R : Fl → Sto → Prop) (u : Lk R), Ev (evS Φ (.asg (.tp ts) a) ε s) R u = Ev (evE Φ a ε s) fun v s => Ev (datP v s) fun x s => Ev (evT Φ (.tp ts) x ε s) fun ε s => R (.nx ε) s) ∧
    (∀ Φ o i a ε s (R : Fl → Sto → Prop) (u : Lk R), Ev (evS Φ (.asg (.sb o i) a) ε s) R u = Ev (evE Φ a ε s) fun v s => Ev (datP v s) fun x s => Ev (evT Φ (.sb o i) x ε s) fun ε s => R (.nx ε) s) ∧
    (∀ Φ o i a ε s (R : Fl → Sto → Prop) (u : Lk R), Ev (evS Φ (.asg (.ds o i) a) ε s) R u = Ev (evE Φ a ε s) fun v s => Ev (datP v s) fun x s => Ev (evT Φ (.ds o i) x ε s) fun ε s => R (.nx ε) s) ∧
    (∀ Φ ts es ε s (R : Fl → Sto → Prop) (u : Lk R), Ev (evS Φ (.par ts es) ε s) R u = Ev (evEs Φ es ε s) fun vs s => Ev ((match evPar ts vs ε with
      | some ε' => M.pure (.nx ε')
      | none => M.bad : M Fl) s) R) ∧
    (∀ Φ a ε s (R : Fl → Sto → Prop) (u : Lk R), Ev (evS Φ (.ret a) ε s) R u = Ev (evE Φ a ε s) fun v s => Ev (noC v s) fun v s => R (.rt v) s) ∧
    (∀ Φ ε s (R : Fl → Sto → Prop) (u : Lk R), Ev (evS Φ .retN ε s) R u = R (.rt (.d .none)) s) ∧
    (∀ Φ ε s (R : Fl → Sto → Prop) (u : Lk R), Ev (evS Φ .pass ε s) R u = R (.nx ε) s) ∧
    (∀ Φ ε s (R : Fl → Sto → Prop) (u : Lk R), Ev (evS Φ .brk ε s) R u = R (.bk ε) s) ∧
    (∀ Φ ε s (R : Fl → Sto → Prop) (u : Lk R), Ev (evS Φ .cnt ε s) R u = R (.ct ε) s) ∧
    (∀ Φ c x y ε s (R : Fl → Sto → Prop) (u : Lk R), Ev (evS Φ (.ifs c x y) ε s) R u = Ev (evE Φ c ε s) fun v s => Ev (bln v s) fun k s => if k = true then Ev (evSs Φ x ε s) R else Ev (evSs Φ y ε s) R) ∧
    (∀ Φ t it x ε s (R : Fl → Sto → Prop) (u : Lk R), Ev (evS Φ (.for_ t it x) ε s) R u = Ev (evI Φ it ε s) fun q s => Ev (gdOk q.1 s) fun _ s => Ev (forS (fun z ε => M.bind (evT Φ t z ε) fun ε' => evSs Φ x ε') q.1 q.2 ε s) R) ∧
    (∀ Φ n c x ε s (R : Fl → Sto → Prop) (u : Lk R), Ev (evS Φ (.whl n c x) ε s) R u = Ev (whlS (fun ε => M.bind (evE Φ c ε) fun v => bln v) (fun ε => evSs Φ x ε) n ε s) R) ∧
    (∀ Φ i op a ε s (R : Fl → Sto → Prop) (u : Lk R), Ev (evS Φ (.aug i op a) ε s) R u = Ev ((match rdV ε i with
      | some x => M.bind (evE Φ a ε) fun w => M.bind (dat w) fun y => M.bind (ipD op x y) fun z => M.bind (noC z) fun z => M.pure (.nx (setE ε i z))
      | none => M.bad : M Fl) s) R) ∧
    (∀ Φ i k js ε s (R : Fl → Sto → Prop) (u : Lk R), Ev (evS Φ (.ndef i k js) ε s) R u = R (.nx (ε.set i (some (.nd k js)))) s) := by
  refine ⟨?_, ?_, ?_, ?_, ?_, ?_, ?_, ?_, ?_, ?_, ?_, ?_, ?_, ?_, ?_, ?_, ?_, ?_, ?_, ?_, ?_, ?_, ?_, ?_, ?_⟩ <;> intros
  all_goals first
    | rfl
    | (rw [evSs]; rfl)
    | (rw [evSs, Ev_bind]; congr 1; funext w s; cases w <;> rfl)
    | (rw [evS, Ev_bind]; done)
    | (rw [evS, Ev_bind]; rfl)
    | (rw [evS, Ev_bind]; congr 1; funext v s; rw [Ev_bind]; done)
    | (rw [evS, Ev_bind]; congr 1; funext v s; rw [Ev_bind]; rfl)
    | (rw [evS, Ev_bind]; congr 1; funext v s; rw [Ev_bind]; congr 1; funext v s; rw [Ev_bind]; done)
    | (rw [evS, Ev_bind]; congr 1; funext v s; rw [Ev_bind]; congr 1; funext v s; rw [Ev_bind]; rfl)
    | (rw [evS, Ev_bind]; congr 1; funext v s; rw [Ev_bind]; congr 1; funext k s; rw [Ev_if])
    | (rw [evS]; done)
    | (rw [evS]; rfl)
    | (rw [evS]
       · rw [Ev_bind]; congr 1; funext v s; rw [Ev_bind]; congr 1; funext v s; rw [Ev_bind]; try rfl
       · intro i h; cases h)
  all_goals (intro i h; cases h)
theorem fxE : (∀ Φ i ε s (Q : Val → Sto → Prop) (u : Lk Q), Ev (evE Φ (.var i) ε s) Q u = Ev (varV ε i s) Q) ∧
    (∀ Φ c ε s (Q : Val → Sto → Prop) (u : Lk Q), Ev (evE Φ (.cst c) ε s) Q u = Q (.d c) s) ∧
    (∀ Φ x ε s (Q : Val → Sto → Prop) (u : Lk Q), Ev (evE Φ (.glob x) ε s) Q u = Ev ((match Φ.gl x with
      | some c => M.pure (.d c)
      | none => M.bad : M Val) s) Q) ∧
    (∀ Φ a ε s (Q : Val → Sto → Prop) (u : Lk Q), Ev (evE Φ (.neg a) ε s) Q u = Ev (evE Φ a ε s) fun v s => Ev ((match v with
      | .d (.int i) => int (-i)
      | _ => M.bad : M Val) s) Q) ∧
    (∀ Φ a ε s (Q : Val → Sto → Prop) (u : Lk Q), Ev (evE Φ (.notv a) ε s) Q u = Ev (evE Φ a ε s) fun v s => Ev (bln v s) fun b s => Q (.d (.bool (!b))) s) ∧
    (∀ Φ op a b ε s (Q : Val → Sto → Prop) (u : Lk Q), Ev (evE Φ (.bin op a b) ε s) Q u = Ev (evE Φ a ε s) fun v s => Ev (evE Φ b ε s) fun w s => Ev (vw v s) fun x s => Ev (vw w s) fun y s => Ev (binD op x y s) Q) ∧
    (∀ Φ op a b ε s (Q : Val → Sto → Prop) (u : Lk Q), Ev (evE Φ (.cmp op a b) ε s) Q u = Ev (evE Φ a ε s) fun v s => Ev (evE Φ b ε s) fun w s => Ev (inCmp op v w s) fun c s => Q (.d (.bool c)) s) ∧
    (∀ Φ n a d ε s (Q : Val → Sto → Prop) (u : Lk Q), Ev (evE Φ (.din n a d) ε s) Q u = Ev (evE Φ a ε s) fun v s => Ev (evE Φ d ε s) fun w s => Ev (dat v s) fun k s => Ev (askD w k s) fun o s => Q (.d (.bool (if n then !o.isSome else o.isSome))) s) ∧
    (∀ Φ n a x ε s (Q : Val → Sto → Prop) (u : Lk Q), Ev (evE Φ (.ing n a x) ε s) Q u = Ev (evE Φ a ε s) fun v s => Ev (dat v s) fun d s => Ev ((match Φ.gt x with
      | some xs => M.bind (inD d (.tuple xs)) fun k => bool (if n then !k else k)
      | none => M.bad : M Val) s) Q) ∧
    (∀ Φ n a b ε s (Q : Val → Sto → Prop) (u : Lk Q), Ev (evE Φ (.rep n a b) ε s) Q u = Ev (evE Φ a ε s) fun v s => Ev (vw v s) fun x s => if repOk x = true then Ev (evE Φ b ε s) (fun w s => Ev (vw w s) fun y s => if repOk y = true then Q (.d (.bool (if n then !(decide (x.shown = y.shown)) else decide (x.shown = y.shown)))) s else False) else False) ∧
    (∀ Φ o1 o2 a b c ε s (Q : Val → Sto → Prop) (u : Lk Q), Ev (evE Φ (.chain o1 o2 a b c) ε s) Q u = Ev (evE Φ a ε s) fun v s => Ev (evE Φ b ε s) fun w s => Ev (inCmp o1 v w s) fun k s => if k = true then Ev (evE Φ c ε s) (fun z s => Ev (inCmp o2 w z s) fun c s => Q (.d (.bool c)) s) else Q (.d (.bool false)) s) ∧
    (∀ Φ a b ε s (Q : Val → Sto → Prop) (u : Lk Q), Ev (evE Φ (.andv a b) ε s) Q u = Ev (evE Φ a ε s) fun v s => Ev (bln v s) fun k s => if k = true then Ev (evE Φ b ε s) Q else Q (.d (.bool false)) s) ∧
    (∀ Φ a b ε s (Q : Val → Sto → Prop) (u : Lk Q), Ev (evE Φ (.orv a b) ε s) Q u = Ev (evE Φ a ε s) fun v s => Ev (bln v s) fun k s => if k = true then Q (.d (.bool true)) s else Ev (evE Φ b ε s) Q) ∧
    (∀ Φ c a b ε s (Q : Val → Sto → Prop) (u : Lk Q), Ev (evE Φ (.ife c a b) ε s) Q u = Ev (evE Φ c ε s) fun v s => Ev (bln v s) fun k s => if k = true then Ev (evE Φ a ε s) Q else Ev (evE Φ b ε s) Q) ∧
    (∀ Φ es ε s (Q : Val → Sto → Prop) (u : Lk Q), Ev (evE Φ (.tup es) ε s) Q u = Ev (evEs Φ es ε s) fun vs s => Ev (dats vs s) fun xs s => Ev (mkT xs s) Q) ∧
    (∀ Φ ob es ε s (Q : Val → Sto → Prop) (u : Lk Q), Ev (evE Φ (.lst ob es) ε s) Q u = Ev (evEs Φ es ε s) fun vs s => Ev (dats vs s) fun xs s => if xs.length ≤ sizeLine then Ev (mkL ob xs s) Q else False) ∧
    (∀ Φ tk ε s (Q : Val → Sto → Prop) (u : Lk Q), Ev (evE Φ (.dnew tk) ε s) Q u = Q (.o s.length) (s ++ [.dct tk []])) ∧
    (∀ Φ a b ε s (Q : Val → Sto → Prop) (u : Lk Q), Ev (evE Φ (.catO a b) ε s) Q u = Ev (evE Φ a ε s) fun v s => Ev (evE Φ b ε s) fun w s => Ev (vw v s) fun x s => Ev (vw w s) fun y s => Ev ((match x, y with
      | .list xs, .list ys => if xs.length + ys.length ≤ sizeLine then alloc (.lst (xs ++ ys)) else M.bad
      | _, _ => M.bad : M Val) s) Q) ∧
    (∀ Φ a b ε s (Q : Val → Sto → Prop) (u : Lk Q), Ev (evE Φ (.mulO a b) ε s) Q u = Ev (evE Φ a ε s) fun v s => Ev (evE Φ b ε s) fun w s => Ev (vw v s) fun x s => Ev (vw w s) fun y s => Ev ((match x, y with
      | .list xs, .int k => if decide (0 ≤ k) && decide (k ≤ 1000) && decide (xs.length ≤ 1000) then alloc (.lst (List.replicate k.toNat xs).flatten) else M.bad
      | _, _ => M.bad : M Val) s) Q) ∧
    (∀ Φ a i ε s (Q : Val → Sto → Prop) (u : Lk Q), Ev (evE Φ (.sub a i) ε s) Q u = Ev (evE Φ a ε s) fun v s => Ev (evE Φ i ε s) fun i s => Ev (dat i s) fun i s => Ev (subV v i s) Q) ∧
    (∀ Φ a i ε s (Q : Val → Sto → Prop) (u : Lk Q), Ev (evE Φ (.dsub a i) ε s) Q u = Ev (evE Φ a ε s) fun v s => Ev (evE Φ i ε s) fun i s => Ev (dat i s) fun i s => Ev (subD v i s) Q) ∧
    (∀ Φ a l h ε s (Q : Val → Sto → Prop) (u : Lk Q), Ev (evE Φ (.slc a l h) ε s) Q u = Ev (evE Φ a ε s) fun v s => Ev (evO Φ l ε s) fun l s => Ev (evO Φ h ε s) fun h s => Ev (slcV v l h s) Q) ∧
    (∀ Φ a ε s (Q : Val → Sto → Prop) (u : Lk Q), Ev (evE Φ (.rev a) ε s) Q u = Ev (evE Φ a ε s) fun v s => Ev (revV v s) Q) ∧
    (∀ Φ a ty ε s (Q : Val → Sto → Prop) (u : Lk Q), Ev (evE Φ (.isi a ty) ε s) Q u = Ev (evE Φ a ε s) fun v s => Ev (datP v s) fun x s => Q (.d (.bool (isiD x ty))) s) ∧
    (∀ Φ b ob es ε s (Q : Val → Sto → Prop) (u : Lk Q), Ev (evE Φ (.bi b ob es) ε s) Q u = Ev (evEs Φ es ε s) fun vs s => Ev (biV b ob vs s) Q) ∧
    (∀ Φ m a es ε s (Q : Val → Sto → Prop) (u : Lk Q), Ev (evE Φ (.me m a es) ε s) Q u = Ev (evE Φ a ε s) fun v s => Ev (rcvV m v s) fun _ s => Ev (evEs Φ es ε s) fun vs s => Ev (meV m v vs s) Q) ∧
    (∀ Φ f es pm ε s (Q : Val → Sto → Prop) (u : Lk Q), Ev (evE Φ (.call f es pm) ε s) Q u = Ev (evEs Φ es ε s) fun vs s => Ev ((match perm pm vs with
      | some ws => Φ.fn f ws
      | none => M.bad : M Val) s) Q) ∧
    (∀ Φ i es ε s (Q : Val → Sto → Prop) (u : Lk Q), Ev (evE Φ (.callv i es) ε s) Q u = Ev (varV ε i s) fun f s => if isF f = true then Ev (evEs Φ es ε s) (fun vs s => Ev (callV Φ f vs s) Q) else False) ∧
    (∀ Φ ob own cs e ε s (Q : Val → Sto → Prop) (u : Lk Q), Ev (evE Φ (.comp ob own cs e) ε s) Q u = Ev (evCs Φ cs (fun ε => M.bind (evE Φ e ε) fun v => M.bind (datP v) fun x => M.pure [(x, .none)]) (blkE ε own) s) fun ps s => if ps.length ≤ sizeLine then Ev (mkL ob (ps.map (·.1)) s) Q else False) ∧
    (∀ Φ tk own cs k e ε s (Q : Val → Sto → Prop) (u : Lk Q), Ev (evE Φ (.dcomp tk own cs k e) ε s) Q u = Ev (evCs Φ cs (fun ε => M.bind (evE Φ k ε) fun k => M.bind (dat k) fun k => M.bind (evE Φ e ε) fun v => M.bind (datP v) fun v => if isKey k && (isTk k == tk) then M.pure [(k, v)] else M.bad) (blkE ε own) s) fun ps s => if ps.length ≤ sizeLine then Q (.o s.length) (s ++ [.dct tk (ps.foldl (fun acc p => putD acc p.1 p.2) [])]) else False) ∧
    (∀ Φ k js ε s (Q : Val → Sto → Prop) (u : Lk Q), Ev (evE Φ (.clo k js) ε s) Q u = Ev ((match capD ε js with
      | some ws => M.pure (.c k ws)
      | none => M.bad : M Val) s) Q) ∧
    (∀ Φ f ε s (Q : Val → Sto → Prop) (u : Lk Q), Ev (evE Φ (.fn f) ε s) Q u = Q (.g f) s) ∧
    (∀ Φ a ε s (Q : Val → Sto → Prop) (u : Lk Q), Ev (evE Φ (.frz a) ε s) Q u = Ev (evE Φ a ε s) fun v s => Ev (freeze v s) Q) ∧
    (∀ Φ ob a f ε s (Q : Val → Sto → Prop) (u : Lk Q), Ev (evE Φ (.sortK ob a f) ε s) Q u = Ev (evE Φ a ε s) fun v s => Ev (evE Φ f ε s) fun f s => if isF f = true then Ev (vw v s) (fun x s => Ev (sortKF Φ ob f x s) Q) else False) ∧
    (∀ Φ ob a f ε s (Q : Val → Sto → Prop) (u : Lk Q), Ev (evE Φ (.sortR ob a f) ε s) Q u = Ev (evE Φ a ε s) fun v s => Ev ((match v with
      | .d (.int j) => M.bind (evE Φ f ε) fun f => sortRF Φ ob f j
      | _ => M.bad : M Val) s) Q) ∧
    (∀ Φ ε s (Q : List Val → Sto → Prop) (u : Lk Q), Ev (evEs Φ .nil ε s) Q u = Q [] s) ∧
    (∀ Φ a es ε s (Q : List Val → Sto → Prop) (u : Lk Q), Ev (evEs Φ (.cons a es) ε s) Q u = Ev (evE Φ a ε s) fun v s => Ev (evEs Φ es ε s) fun vs s => Q (v :: vs) s) ∧
    (∀ Φ i x ε s (Q : Env → Sto → Prop) (u : Lk Q), Ev (evT Φ (.nm i) x ε s) Q u = Q (setE ε i (.d x)) s) ∧
    (∀ Φ ts xs ε s (Q : Env → Sto → Prop) (u : Lk Q), Ev (evT Φ (.tp ts) (.tuple xs) ε s) Q u = if xs.length = tsLen ts then Ev (evTs Φ ts xs ε s) Q else False) ∧
    (∀ Φ a i x ε s (Q : Env → Sto → Prop) (u : Lk Q), Ev (evT Φ (.sb a i) x ε s) Q u = Ev (evE Φ a ε s) fun v s => Ev (evE Φ i ε s) fun i s => Ev (dat i s) fun i s => Ev (storeL v i x s) fun _ s => Q ε s) ∧
    (∀ Φ a i x ε s (Q : Env → Sto → Prop) (u : Lk Q), Ev (evT Φ (.ds a i) x ε s) Q u = Ev (evE Φ a ε s) fun v s => Ev (evE Φ i ε s) fun i s => Ev (dat i s) fun i s => Ev (storeD v i x s) fun _ s => Q ε s) ∧
    (∀ Φ ε s (Q : Env → Sto → Prop) (u : Lk Q), Ev (evTs Φ .nil [] ε s) Q u = Q ε s) ∧
    (∀ Φ t ts x r ε s (Q : Env → Sto → Prop) (u : Lk Q), Ev (evTs Φ (.cons t ts) (x :: r) ε s) Q u = Ev (evT Φ t x ε s) fun ε s => Ev (evTs Φ ts r ε s) Q) ∧
    (∀ Φ a ε s (Q : Option Gd × List PyData → Sto → Prop) (u : Lk Q), Ev (evI Φ (.of a) ε s) Q u = Ev (evE Φ a ε s) fun v s => Ev (itV v s) Q) ∧
    (∀ Φ a ε s (Q : Option Gd × List PyData → Sto → Prop) (u : Lk Q), Ev (evI Φ (.rng1 a) ε s) Q u = Ev (evE Φ a ε s) fun v s => Ev ((match v with
      | .d (.int j) => if bnd62 j && decide (j ≤ sizeLine) then M.pure (none, rngL 0 j.toNat 1) else M.bad
      | _ => M.bad : M (Option Gd × List PyData)) s) Q) ∧
    (∀ Φ a b ε s (Q : Option Gd × List PyData → Sto → Prop) (u : Lk Q), Ev (evI Φ (.rng2 a b) ε s) Q u = Ev (evE Φ a ε s) fun v s => Ev (evE Φ b ε s) fun w s => Ev ((match v, w with
      | .d (.int i), .d (.int j) => if bnd62 i && bnd62 j && decide (j - i ≤ sizeLine) then M.pure (none, rngL i (j - i).toNat 1) else M.bad
      | _, _ => M.bad : M (Option Gd × List PyData)) s) Q) ∧
    (∀ Φ a ε s (Q : Option Gd × List PyData → Sto → Prop) (u : Lk Q), Ev (evI Φ (.enum a) ε s) Q u = Ev (evE Φ a ε s) fun v s => Ev (dat v s) fun x s => Ev ((match seqOf x with
      | some xs => M.pure (none, numL 0 xs)
      | none => M.bad : M (Option Gd × List PyData)) s) Q) ∧
    (∀ Φ a b ε s (Q : Option Gd × List PyData → Sto → Prop) (u : Lk Q), Ev (evI Φ (.zip a b) ε s) Q u = Ev (evE Φ a ε s) fun v s => Ev (evE Φ b ε s) fun w s => Ev (dat v s) fun x s => Ev (dat w s) fun y s => Ev ((match seqOf x, seqOf y with
      | some xs, some ys => M.pure (none, pairL xs ys)
      | _, _ => M.bad : M (Option Gd × List PyData)) s) Q) ∧
    (∀ Φ (K : Env → M (List (PyData × PyData))) ε s (Q : List (PyData × PyData) → Sto → Prop) (u : Lk Q), Ev (evCs Φ .nil K ε s) Q u = Ev (K ε s) Q) ∧
    (∀ Φ t it c cs (K : Env → M (List (PyData × PyData))) ε s (Q : List (PyData × PyData) → Sto → Prop) (u : Lk Q), Ev (evCs Φ (.cons t it c cs) K ε s) Q u = Ev (evI Φ it ε s) fun q s => Ev (gdOk q.1 s) fun _ s => Ev (catL (fun x => M.bind (evT Φ t x ε) fun ε' => M.bind (evC Φ c ε') fun b => if b then evCs Φ cs K ε' else M.pure []) q.1 q.2 s) Q) ∧
    (∀ Φ ε s (Q : Option Int → Sto → Prop) (u : Lk Q), Ev (evO Φ .no ε s) Q u = Q none s) ∧
    (∀ Φ ε s (Q : Bool → Sto → Prop) (u : Lk Q), Ev (evC Φ .no ε s) Q u = Q true s) := by
  refine ⟨?_, ?_, ?_, ?_, ?_, ?_, ?_, ?_, ?_, ?_, ?_, ?_, ?_, ?_, ?_, ?_, ?_, ?_, ?_, ?_, ?_, ?_, ?_, ?_, ?_, ?_, ?_, ?_, ?_, ?_, ?_, ?_, ?_, ?_, ?_, ?_, ?_, ?_, ?_, ?_, ?_, ?_, ?_, ?_, ?_, ?_, ?_, ?_, ?_, ?_, ?_, ?_⟩ <;> intros
  all_goals first
    | rfl
    | (rw [evE]; done)
    | (rw [evE]; rfl)
    | (rw [evE]; (repeat' (first | rfl | refine Ev_bindcc fun _ _ => ?_ | refine Ev_bindc fun _ _ => ?_ | refine Ev_ifc ?_ ?_ | refine Ev_ifPc ?_ ?_ | rw [Ev_calm])); done)
    | (rw [evEs]; (repeat' (first | rfl | refine Ev_bindcc fun _ _ => ?_ | refine Ev_bindc fun _ _ => ?_ | refine Ev_ifc ?_ ?_ | refine Ev_ifPc ?_ ?_ | rw [Ev_calm])); done)
    | (rw [evT]; (repeat' (first | rfl | refine Ev_bindcc fun _ _ => ?_ | refine Ev_bindc fun _ _ => ?_ | refine Ev_ifc ?_ ?_ | refine Ev_ifPc ?_ ?_ | rw [Ev_calm])); done)
    | (rw [evTs]; (repeat' (first | rfl | refine Ev_bindcc fun _ _ => ?_ | refine Ev_bindc fun _ _ => ?_ | refine Ev_ifc ?_ ?_ | refine Ev_ifPc ?_ ?_ | rw [Ev_calm])); done)
    | (rw [evI]; (repeat' (first | rfl | refine Ev_bindcc fun _ _ => ?_ | refine Ev_bindc fun _ _ => ?_ | refine Ev_ifc ?_ ?_ | refine Ev_ifPc ?_ ?_ | rw [Ev_calm])); done)
    | (rw [evCs]; (repeat' (first | rfl | refine Ev_bindcc fun _ _ => ?_ | refine Ev_bindc fun _ _ => ?_ | refine Ev_ifc ?_ ?_ | refine Ev_ifPc ?_ ?_ | rw [Ev_calm])); done)
    | (rw [evO]; (repeat' (first | rfl | refine Ev_bindcc fun _ _ => ?_ | refine Ev_bindc fun _ _ => ?_ | refine Ev_ifc ?_ ?_ | refine Ev_ifPc ?_ ?_ | rw [Ev_calm])); done)
    | (rw [evC]; (repeat' (first | rfl | refine Ev_bindcc fun _ _ => ?_ | refine Ev_bindc fun _ _ => ?_ | refine Ev_ifc ?_ ?_ | refine Ev_ifPc ?_ ?_ | rw [Ev_calm])); done)
end
end Fx

set_option Elab.async false
set_option linter.all false
set_option maxRecDepth 100000
set_option maxHeartbeats 4000000
/-! Fy2: rules of values (printed by mkfy2.py). -/
namespace Fx
open PySem
def ofO {α : Type} (o : Option α) : M α := match o with
  | some a => M.pure a
  | none => M.bad
def lstM (c : Option Cel) : M (List PyData) := match c with
  | some (.lst xs) => M.pure xs
  | _ => M.bad
def dctM (c : Option Cel) : M (Bool × List (PyData × PyData)) := match c with
  | some (.dct k ps) => M.pure (k, ps)
  | _ => M.bad
def frzM (c : Option Cel) (l : Nat) : M Val := fun s => match c with
  | some (.lst xs) => .ok (.d (.list xs)) (s.set l .dead)
  | some (.dct _ ps) => .ok (.d (.dict ps)) (s.set l .dead)
  | _ => .bad
def lstOf (x : PyData) : Option (List PyData) := match x with
  | .list xs => some xs
  | _ => none
def slV (o : Option (Option Slv)) (ε : Env) : M Val := match o with
  | some (some (.v v)) => M.pure v
  | some (some (.nd k js)) => (match capD ε js with
    | some ws => M.pure (.c k ws)
    | none => M.bad)
  | _ => M.bad
def intO (v : Val) : M (Option Int) := match v with
  | .d (.int i) => M.pure (some i)
  | _ => M.bad
def hdO (ns : List Int) : Option (Int × List Int) := match ns with
  | m :: r => some (m, r)
  | [] => none
theorem Ev_vw {α : Type} {v : Val} {s : Sto} {f : PyData → M α} {Q : α → Sto → Prop} {u : Lk Q} : Ev (M.bind (vw v) f s) Q u = Ev (vw v s) fun x s => Ev (f x s) Q := Ev_bind
theorem vw_of {l : Nat} {s : Sto} : vw (.o l) s = M.bind (lstM (s[l]?)) (fun xs => M.pure (.list xs)) s := by
  show (match s[l]? with
    | some (.lst xs) => .ok (.list xs) s
    | _ => .bad : Out PyData) = _
  generalize s[l]? = c
  cases c with
  | none => rfl
  | some c => cases c <;> rfl
theorem dctOf_o' {l : Nat} {s : Sto} : dctOf (.o l) s = dctM (s[l]?) s := by
  show (match s[l]? with
    | some (.dct tk ps) => .ok (tk, ps) s
    | _ => .bad : Out (Bool × List (PyData × PyData))) = _
  generalize s[l]? = c
  cases c with
  | none => rfl
  | some c => cases c <;> rfl
theorem bind_assoc_s {α β γ : Type} {m : M α} {f : α → M β} {g : β → M γ} {s : Sto} : M.bind (M.bind m f) g s = M.bind m (fun a => M.bind (f a) g) s := by rw [M.bind_assoc]
theorem bind_of {α β : Type} {m m' : M α} {f : α → M β} {s : Sto} (h : m s = m' s) : M.bind m f s = M.bind m' f s := by unfold M.bind; rw [h]
theorem bv1 {α : Type} {l : Nat} {f : PyData → M α} {s : Sto} : M.bind (vw (.o l)) f s = M.bind (lstM (s[l]?)) (fun xs => f (.list xs)) s := by
  rw [bind_of vw_of, bind_assoc_s]
  rfl
theorem bv2 {α : Type} {l : Nat} {f : Bool × List (PyData × PyData) → M α} {s : Sto} : M.bind (dctOf (.o l)) f s = M.bind (dctM (s[l]?)) f s := bind_of dctOf_o'
theorem Ev_ofO {α β : Type} {o : Option α} {f : α → M β} {s : Sto} {Q : β → Sto → Prop} {u : Lk Q} {G : α → Sto → Prop} (h : ∀ a s, Ev (f a s) Q = G a s) : Ev ((match o with
    | some a => f a
    | none => M.bad) s) Q u = Ev (ofO o s) G := by
  cases o with
  | none => rfl
  | some a => exact h a s
theorem Ev_lst {β : Type} {c : Option Cel} {f : List PyData → Out β} {s : Sto} {Q : β → Sto → Prop} {u : Lk Q} {G : List PyData → Sto → Prop} (h : ∀ xs, Ev (f xs) Q = G xs s) : Ev (match c with
    | some (.lst xs) => f xs
    | _ => .bad) Q u = Ev (lstM c s) G := by
  cases c with
  | none => rfl
  | some c => cases c with
    | lst xs => exact h xs
    | _ => rfl
theorem Ev_dct {β : Type} {c : Option Cel} {f : Bool → List (PyData × PyData) → Out β} {s : Sto} {Q : β → Sto → Prop} {u : Lk Q} {G : Bool × List (PyData × PyData) → Sto → Prop} (h : ∀ k ps, Ev (f k ps) Q = G (k, ps) s) : Ev (match c with
    | some (.dct k ps) => f k ps
    | _ => .bad) Q u = Ev (dctM c s) G := by
  cases c with
  | none => rfl
  | some c => cases c with
    | dct k ps => exact h k ps
    | _ => rfl
theorem Ev_seq {β : Type} {x : PyData} {f : List PyData → M β} {s : Sto} {Q : β → Sto → Prop} {u : Lk Q} {G : List PyData → Sto → Prop} (h : ∀ xs s, Ev (f xs s) Q = G xs s) : Ev ((match x with
    | .list xs => f xs
    | _ => M.bad) s) Q u = Ev (ofO (lstOf x) s) G := by
  cases x with
  | list xs => exact h xs s
  | _ => rfl
theorem Ev_hd {β : Type} {o : Option (List Int)} {f : Int → List Int → M β} {s : Sto} {Q : β → Sto → Prop} {u : Lk Q} {G : Int × List Int → Sto → Prop} (h : ∀ m r, Ev (f m r s) Q = G (m, r) s) : Ev ((match o with
    | some (m :: r) => f m r
    | _ => M.bad) s) Q u = Ev (ofO o s) fun ns s => Ev (ofO (hdO ns) s) G := by
  cases o with
  | none => rfl
  | some ns => cases ns with
    | nil => rfl
    | cons m r => exact h m r
theorem fxV : (∀ x s (Q : Val → Sto → Prop) (u : Lk Q), Ev (noC (.d x) s) Q u = Q (.d x) s) ∧
    (∀ l s (Q : Val → Sto → Prop) (u : Lk Q), Ev (noC (.o l) s) Q u = Q (.o l) s) ∧
    (∀ f s (Q : Val → Sto → Prop) (u : Lk Q), Ev (noC (.g f) s) Q u = Q (.g f) s) ∧
    (∀ x s (Q : PyData → Sto → Prop) (u : Lk Q), Ev (dat (.d x) s) Q u = Q x s) ∧
    (∀ x s (Q : PyData → Sto → Prop) (u : Lk Q), Ev (datP (.d x) s) Q u = if isDct x = true then False else Q x s) ∧
    (∀ x s (Q : PyData → Sto → Prop) (u : Lk Q), Ev (vw (.d x) s) Q u = Q x s) ∧
    (∀ l s (Q : PyData → Sto → Prop) (u : Lk Q), Ev (vw (.o l) s) Q u = Ev (lstM (s[l]?) s) fun xs s => Q (.list xs) s) ∧
    (∀ xs s (Q : List PyData → Sto → Prop) (u : Lk Q), Ev (lstM (some (.lst xs)) s) Q u = Q xs s) ∧
    (∀ b s (Q : Bool → Sto → Prop) (u : Lk Q), Ev (bln (.d (.bool b)) s) Q u = Q b s) ∧
    (∀ i s (Q : Int → Sto → Prop) (u : Lk Q), Ev (intV (.d (.int i)) s) Q u = Q i s) ∧
    (∀ s (Q : List PyData → Sto → Prop) (u : Lk Q), Ev (dats [] s) Q u = Q [] s) ∧
    (∀ xs s (Q : Val → Sto → Prop) (u : Lk Q), Ev (mkT xs s) Q u = if xs.length ≤ sizeLine then Q (.d (.tuple xs)) s else False) ∧
    (∀ xs s (Q : Val → Sto → Prop) (u : Lk Q), Ev (mkL true xs s) Q u = Q (.o s.length) (s ++ [.lst xs])) ∧
    (∀ xs s (Q : Val → Sto → Prop) (u : Lk Q), Ev (mkL false xs s) Q u = Q (.d (.list xs)) s) ∧
    (∀ c s (Q : Val → Sto → Prop) (u : Lk Q), Ev (alloc c s) Q u = Q (.o s.length) (s ++ [c])) ∧
    (∀ x s (Q : Val → Sto → Prop) (u : Lk Q), Ev (freeze (.d x) s) Q u = Q (.d x) s) ∧
    (∀ l s (Q : Val → Sto → Prop) (u : Lk Q), Ev (freeze (.o l) s) Q u = Ev (frzM (s[l]?) l s) Q) ∧
    (∀ xs l s (Q : Val → Sto → Prop) (u : Lk Q), Ev (frzM (some (.lst xs)) l s) Q u = Q (.d (.list xs)) (s.set l .dead)) ∧
    (∀ k ps l s (Q : Val → Sto → Prop) (u : Lk Q), Ev (frzM (some (.dct k ps)) l s) Q u = Q (.d (.dict ps)) (s.set l .dead)) ∧
    (∀ i s (Q : Val → Sto → Prop) (u : Lk Q), Ev (int i s) Q u = Q (.d (.int i)) s) ∧
    (∀ b s (Q : Val → Sto → Prop) (u : Lk Q), Ev (bool b s) Q u = Q (.d (.bool b)) s) ∧
    (∀ (α : Type) (a : α) s (Q : α → Sto → Prop) (u : Lk Q), Ev (M.pure a s) Q u = Q a s) ∧
    (∀ (α : Type) s (Q : α → Sto → Prop) (u : Lk Q), Ev (M.bad s) Q u = False) ∧
    (∀ (α : Type) (a : α) s (Q : α → Sto → Prop) (u : Lk Q), Ev (ofO (some a) s) Q u = Q a s) ∧
    (∀ (α : Type) s (Q : α → Sto → Prop) (u : Lk Q), Ev (ofO (none : Option α) s) Q u = False) ∧
    (∀ i j s (Q : Val → Sto → Prop) (u : Lk Q), Ev (binD .Add (.int i) (.int j) s) Q u = Q (.d (.int (i + j))) s) ∧
    (∀ i j s (Q : Val → Sto → Prop) (u : Lk Q), Ev (binD .Sub (.int i) (.int j) s) Q u = Q (.d (.int (i - j))) s) ∧
    (∀ i j s (Q : Val → Sto → Prop) (u : Lk Q), Ev (binD .Mult (.int i) (.int j) s) Q u = if (small64 i || small64 j) = true then Q (.d (.int (i * j))) s else False) ∧
    (∀ i j s (Q : Val → Sto → Prop) (u : Lk Q), Ev (binD .FloorDiv (.int i) (.int j) s) Q u = if (decide (0 < j) && decide (j < 1073741824)) = true then Q (.d (.int (i / j))) s else False) ∧
    (∀ i j s (Q : Val → Sto → Prop) (u : Lk Q), Ev (binD .Mod (.int i) (.int j) s) Q u = if decide (0 < j) = true then Q (.d (.int (i % j))) s else False) ∧
    (∀ i j s (Q : Val → Sto → Prop) (u : Lk Q), Ev (binD .Pow (.int i) (.int j) s) Q u = if (decide (0 ≤ j) && decide (j ≤ 1000000) && small64 i) = true then Q (.d (.int (i ^ j.toNat))) s else False) ∧
    (∀ (i j : Str) s (Q : Val → Sto → Prop) (u : Lk Q), Ev (binD .Add (.str i) (.str j) s) Q u = if i.length + j.length ≤ sizeLine then Q (.d (.str (i ++ j))) s else False) ∧
    (∀ xs ys s (Q : Val → Sto → Prop) (u : Lk Q), Ev (binD .Add (.tuple xs) (.tuple ys) s) Q u = if (xs ++ ys).length ≤ sizeLine then Q (.d (.tuple (xs ++ ys))) s else False) ∧
    (∀ xs ys s (Q : Val → Sto → Prop) (u : Lk Q), Ev (binD .Add (.list xs) (.list ys) s) Q u = if xs.length + ys.length ≤ sizeLine then Q (.d (.list (xs ++ ys))) s else False) ∧
    (∀ xs (k : Int) s (Q : Val → Sto → Prop) (u : Lk Q), Ev (binD .Mult (.list xs) (.int k) s) Q u = if (decide (0 ≤ k) && decide (k ≤ 1000) && decide (xs.length ≤ 1000)) = true then Q (.d (.list (List.replicate k.toNat xs).flatten)) s else False) ∧
    (∀ (x : Str) (k : Int) s (Q : Val → Sto → Prop) (u : Lk Q), Ev (binD .Mult (.str x) (.int k) s) Q u = if (decide (0 ≤ k) && decide (k ≤ 1000) && decide (x.length ≤ 1000)) = true then Q (.d (.str ⟨(List.replicate k.toNat x.cps.toList).flatten.toArray⟩)) s else False) ∧
    (∀ op x y s (Q : Bool → Sto → Prop) (u : Lk Q), Ev (inCmp op (.d x) (.d y) s) Q u = Ev (cmpD op x y s) Q) ∧
    (∀ op l y s (Q : Bool → Sto → Prop) (u : Lk Q), Ev (inCmp op (.o l) (.d y) s) Q u = Ev (lstM (s[l]?) s) fun xs s => Ev (cmpD op (.list xs) y s) Q) ∧
    (∀ i j s (Q : Bool → Sto → Prop) (u : Lk Q), Ev (cmpD .Lt (.int i) (.int j) s) Q u = Q (decide (i < j)) s) ∧
    (∀ i j s (Q : Bool → Sto → Prop) (u : Lk Q), Ev (cmpD .LtE (.int i) (.int j) s) Q u = Q (decide (i ≤ j)) s) ∧
    (∀ i j s (Q : Bool → Sto → Prop) (u : Lk Q), Ev (cmpD .Gt (.int i) (.int j) s) Q u = Q (decide (j < i)) s) ∧
    (∀ i j s (Q : Bool → Sto → Prop) (u : Lk Q), Ev (cmpD .GtE (.int i) (.int j) s) Q u = Q (decide (j ≤ i)) s) ∧
    (∀ i j s (Q : Bool → Sto → Prop) (u : Lk Q), Ev (cmpD .Eq (.int i) (.int j) s) Q u = Q (decide (i = j)) s) ∧
    (∀ i j s (Q : Bool → Sto → Prop) (u : Lk Q), Ev (cmpD .NotEq (.int i) (.int j) s) Q u = Q (!decide (i = j)) s) ∧
    (∀ (i j : Str) s (Q : Bool → Sto → Prop) (u : Lk Q), Ev (cmpD .Eq (.str i) (.str j) s) Q u = Q (decide (i = j)) s) ∧
    (∀ (i j : Str) s (Q : Bool → Sto → Prop) (u : Lk Q), Ev (cmpD .NotEq (.str i) (.str j) s) Q u = Q (!decide (i = j)) s) ∧
    (∀ (i j : Str) s (Q : Bool → Sto → Prop) (u : Lk Q), Ev (cmpD .Lt (.str i) (.str j) s) Q u = Q (decide (i.cps.toList < j.cps.toList)) s) ∧
    (∀ x y s (Q : Bool → Sto → Prop) (u : Lk Q), Ev (cmpD .Eq x y s) Q u = Ev (eqD x y s) Q) ∧
    (∀ x y s (Q : Bool → Sto → Prop) (u : Lk Q), Ev (cmpD .NotEq x y s) Q u = Ev (eqD x y s) fun b s => Q (!b) s) ∧
    (∀ x y s (Q : Bool → Sto → Prop) (u : Lk Q), Ev (eqD x y s) Q u = if (!isDct x && !isDct y && decide (min x.depth y.depth ≤ 64)) = true then Q (PyData.eqv x y) s else False) ∧
    (∀ x y s (Q : Bool → Sto → Prop) (u : Lk Q), Ev (cmpD .In x y s) Q u = Ev (inD x y s) Q) ∧
    (∀ x y s (Q : Bool → Sto → Prop) (u : Lk Q), Ev (cmpD .NotIn x y s) Q u = Ev (inD x y s) fun b s => Q (!b) s) ∧
    (∀ x ys s (Q : Bool → Sto → Prop) (u : Lk Q), Ev (inD x (.list ys) s) Q u = if (!isDct x && decide (x.depth ≤ 64)) = true then Q (ys.any fun y => PyData.eqv y x) s else False) ∧
    (∀ x ys s (Q : Bool → Sto → Prop) (u : Lk Q), Ev (inD x (.tuple ys) s) Q u = if (!isDct x && decide (x.depth ≤ 64)) = true then Q (ys.any fun y => PyData.eqv y x) s else False) ∧
    (∀ (x y : Str) s (Q : Bool → Sto → Prop) (u : Lk Q), Ev (inD (.str x) (.str y) s) Q u = Q (!(Builtin.Str.occurrences y x 0 y.length 1).isEmpty) s) ∧
    (∀ s (Q : Bool → Sto → Prop) (u : Lk Q), Ev (cmpD .Is .none .none s) Q u = Q true s) ∧
    (∀ s (Q : Bool → Sto → Prop) (u : Lk Q), Ev (cmpD .IsNot .none .none s) Q u = Q false s) ∧
    (∀ b s (Q : Bool → Sto → Prop) (u : Lk Q), Ev (cmpD .Is (.bool b) .none s) Q u = Q false s) ∧
    (∀ b s (Q : Bool → Sto → Prop) (u : Lk Q), Ev (cmpD .IsNot (.bool b) .none s) Q u = Q true s) ∧
    (∀ b s (Q : Bool → Sto → Prop) (u : Lk Q), Ev (cmpD .Is (.int b) .none s) Q u = Q false s) ∧
    (∀ b s (Q : Bool → Sto → Prop) (u : Lk Q), Ev (cmpD .IsNot (.int b) .none s) Q u = Q true s) ∧
    (∀ b s (Q : Bool → Sto → Prop) (u : Lk Q), Ev (cmpD .Is (.str b) .none s) Q u = Q false s) ∧
    (∀ b s (Q : Bool → Sto → Prop) (u : Lk Q), Ev (cmpD .IsNot (.str b) .none s) Q u = Q true s) ∧
    (∀ b s (Q : Bool → Sto → Prop) (u : Lk Q), Ev (cmpD .Is (.list b) .none s) Q u = Q false s) ∧
    (∀ b s (Q : Bool → Sto → Prop) (u : Lk Q), Ev (cmpD .IsNot (.list b) .none s) Q u = Q true s) ∧
    (∀ b s (Q : Bool → Sto → Prop) (u : Lk Q), Ev (cmpD .Is (.tuple b) .none s) Q u = Q false s) ∧
    (∀ b s (Q : Bool → Sto → Prop) (u : Lk Q), Ev (cmpD .IsNot (.tuple b) .none s) Q u = Q true s) ∧
    (∀ xs lo hi s (Q : Val → Sto → Prop) (u : Lk Q), Ev (slcV (.d (.list xs)) lo hi s) Q u = Q (.d (.list (cut xs lo hi))) s) ∧
    (∀ xs lo hi s (Q : Val → Sto → Prop) (u : Lk Q), Ev (slcV (.d (.tuple xs)) lo hi s) Q u = Q (.d (.tuple (cut xs lo hi))) s) ∧
    (∀ (z : Str) lo hi s (Q : Val → Sto → Prop) (u : Lk Q), Ev (slcV (.d (.str z)) lo hi s) Q u = Q (.d (.str (L2.cutS z lo hi))) s) ∧
    (∀ l lo hi s (Q : Val → Sto → Prop) (u : Lk Q), Ev (slcV (.o l) lo hi s) Q u = Ev (lstM (s[l]?) s) fun xs s => Q (.d (.list (cut xs lo hi))) s) ∧
    (∀ xs s (Q : Val → Sto → Prop) (u : Lk Q), Ev (revV (.d (.list xs)) s) Q u = Q (.d (.list xs.reverse)) s) ∧
    (∀ l s (Q : Bool × List (PyData × PyData) → Sto → Prop) (u : Lk Q), Ev (dctOf (.o l) s) Q u = Ev (dctM (s[l]?) s) Q) ∧
    (∀ k ps s (Q : Bool × List (PyData × PyData) → Sto → Prop) (u : Lk Q), Ev (dctM (some (.dct k ps)) s) Q u = Q (k, ps) s) ∧
    (∀ k x r s (Q : Bool × List (PyData × PyData) → Sto → Prop) (u : Lk Q), Ev (dctOf (.d (.dict ((k, x) :: r))) s) Q u = Q (isTk k, (k, x) :: r) s) ∧
    (∀ v k s (Q : Option PyData → Sto → Prop) (u : Lk Q), Ev (askD v k s) Q u = Ev (dctOf v s) fun p s => if (isKey k && (isTk k == p.1)) = true then Q (lookD p.2 k) s else False) ∧
    (∀ x s (Q : Unit → Sto → Prop) (u : Lk Q), Ev (rcvV .index (.d (.list x)) s) Q u = Q () s) ∧
    (∀ x s (Q : Unit → Sto → Prop) (u : Lk Q), Ev (rcvV .index (.d (.tuple x)) s) Q u = Q () s) ∧
    (∀ x s (Q : Unit → Sto → Prop) (u : Lk Q), Ev (rcvV .count (.d (.list x)) s) Q u = Q () s) ∧
    (∀ x s (Q : Unit → Sto → Prop) (u : Lk Q), Ev (rcvV .count (.d (.tuple x)) s) Q u = Q () s) ∧
    (∀ l s (Q : Unit → Sto → Prop) (u : Lk Q), Ev (rcvV .index (.o l) s) Q u = Ev (lstM (s[l]?) s) fun _ s => Q () s) ∧
    (∀ l s (Q : Unit → Sto → Prop) (u : Lk Q), Ev (rcvV .count (.o l) s) Q u = Ev (lstM (s[l]?) s) fun _ s => Q () s) ∧
    (∀ l s (Q : Unit → Sto → Prop) (u : Lk Q), Ev (rcvV .append (.o l) s) Q u = Ev (lstM (s[l]?) s) fun _ s => Q () s) ∧
    (∀ l s (Q : Unit → Sto → Prop) (u : Lk Q), Ev (rcvV .extend (.o l) s) Q u = Ev (lstM (s[l]?) s) fun _ s => Q () s) ∧
    (∀ l s (Q : Unit → Sto → Prop) (u : Lk Q), Ev (rcvV .remove (.o l) s) Q u = Ev (lstM (s[l]?) s) fun _ s => Q () s) ∧
    (∀ l s (Q : Unit → Sto → Prop) (u : Lk Q), Ev (rcvV .get (.o l) s) Q u = Ev (dctM (s[l]?) s) fun _ s => Q () s) ∧
    (∀ p r s (Q : Unit → Sto → Prop) (u : Lk Q), Ev (rcvV .get (.d (.dict (p :: r))) s) Q u = Q () s) ∧
    (∀ a v s (Q : Val → Sto → Prop) (u : Lk Q), Ev (meV .get a [v] s) Q u = Ev (dat v s) fun k s => Ev (askD a k s) fun o s => Q (.d (o.getD .none)) s) ∧
    (∀ a v w s (Q : Val → Sto → Prop) (u : Lk Q), Ev (meV .get a [v, w] s) Q u = Ev (dat v s) fun k s => Ev (dat w s) fun z s => Ev (askD a k s) fun o s => Q (.d (o.getD z)) s) ∧
    (∀ ob x s (Q : Val → Sto → Prop) (u : Lk Q), Ev (biV .len ob [.d (.list x)] s) Q u = Q (.d (.int x.length)) s) ∧
    (∀ ob x s (Q : Val → Sto → Prop) (u : Lk Q), Ev (biV .len ob [.d (.tuple x)] s) Q u = Q (.d (.int x.length)) s) ∧
    (∀ ob (x : Str) s (Q : Val → Sto → Prop) (u : Lk Q), Ev (biV .len ob [.d (.str x)] s) Q u = Q (.d (.int x.length)) s) ∧
    (∀ ob i j s (Q : Val → Sto → Prop) (u : Lk Q), Ev (biV .max2 ob [.d (.int i), .d (.int j)] s) Q u = Q (.d (.int (if j > i then j else i))) s) ∧
    (∀ ob i j s (Q : Val → Sto → Prop) (u : Lk Q), Ev (biV .min2 ob [.d (.int i), .d (.int j)] s) Q u = Q (.d (.int (if j < i then j else i))) s) ∧
    (∀ ob xs s (Q : Val → Sto → Prop) (u : Lk Q), Ev (biV .max ob [.d (.list xs)] s) Q u = Ev (ofO (intsOf xs) s) fun ns s => Ev (ofO (hdO ns) s) fun p s => Q (.d (.int (maxI p.1 p.2))) s) ∧
    (∀ ob xs s (Q : Val → Sto → Prop) (u : Lk Q), Ev (biV .min ob [.d (.list xs)] s) Q u = Ev (ofO (intsOf xs) s) fun ns s => Ev (ofO (hdO ns) s) fun p s => Q (.d (.int (minI p.1 p.2))) s) ∧
    (∀ ob i s (Q : Val → Sto → Prop) (u : Lk Q), Ev (biV .abs ob [.d (.int i)] s) Q u = Q (.d (.int (if i < 0 then -i else i))) s) ∧
    (∀ ob i s (Q : Val → Sto → Prop) (u : Lk Q), Ev (biV .int ob [.d (.int i)] s) Q u = Q (.d (.int i)) s) ∧
    (∀ ob k s (Q : Val → Sto → Prop) (u : Lk Q), Ev (biV .int ob [.d (.bool k)] s) Q u = Q (.d (.int (if k then 1 else 0))) s) ∧
    (∀ ob v s (Q : Val → Sto → Prop) (u : Lk Q), Ev (biV .sorted ob [v] s) Q u = Ev (vw v s) fun x s => Ev (ofO (seqOf x) s) fun xs s => if (sortOk xs && xs.all (fun y => decide (y.depth ≤ 60))) = true then Ev (mkL ob (sortD xs) s) Q else False) ∧
    (∀ ob i j s (Q : Val → Sto → Prop) (u : Lk Q), Ev (biV .divmod ob [.d (.int i), .d (.int j)] s) Q u = if (decide (0 < j) && decide (j < 1073741824)) = true then Q (.d (.tuple [.int (i / j), .int (i % j)])) s else False) ∧
    (∀ xs s (Q : Option Gd × List PyData → Sto → Prop) (u : Lk Q), Ev (itV (.d (.list xs)) s) Q u = Q (none, xs) s) ∧
    (∀ xs s (Q : Option Gd × List PyData → Sto → Prop) (u : Lk Q), Ev (itV (.d (.tuple xs)) s) Q u = Q (none, xs) s) ∧
    (∀ z s (Q : Option Gd × List PyData → Sto → Prop) (u : Lk Q), Ev (itV (.d (.str z)) s) Q u = Q (none, signs z) s) ∧
    (∀ l s (Q : Option Gd × List PyData → Sto → Prop) (u : Lk Q), Ev (itV (.o l) s) Q u = Ev (lstM (s[l]?) s) fun xs s => Q (some ⟨l, xs⟩, xs) s) ∧
    (∀ s (Q : Unit → Sto → Prop) (u : Lk Q), Ev (gdOk none s) Q u = Q () s) ∧
    (∀ (i j : Int) s (Q : Val → Sto → Prop) (u : Lk Q), Ev (ipD .Add (.int i) (.int j) s) Q u = Q (.d (.int (i + j))) s) ∧
    (∀ (i j : Int) s (Q : Val → Sto → Prop) (u : Lk Q), Ev (ipD .Sub (.int i) (.int j) s) Q u = Q (.d (.int (i - j))) s) ∧
    (∀ ε i s (Q : Val → Sto → Prop) (u : Lk Q), Ev (varV ε i s) Q u = Ev (slV (ε[i]?) ε s) Q) ∧
    (∀ ε x s (Q : Val → Sto → Prop) (u : Lk Q), Ev (slV (some (some (.v x))) ε s) Q u = Q x s) ∧
    (∀ ε k js s (Q : Val → Sto → Prop) (u : Lk Q), Ev (slV (some (some (.nd k js))) ε s) Q u = Ev (ofO (capD ε js) s) fun ws s => Q (.c k ws) s) ∧
    (∀ i s (Q : Option Int → Sto → Prop) (u : Lk Q), Ev (intO (.d (.int i)) s) Q u = Q (some i) s) ∧
    (∀ Φ a ε s (Q : Option Int → Sto → Prop) (u : Lk Q), Ev (evO Φ (.var a) ε s) Q u = Ev (evE Φ (.var a) ε s) fun v s => Ev (intO v s) Q) ∧
    (∀ Φ a ε s (Q : Bool → Sto → Prop) (u : Lk Q), Ev (evC Φ (.var a) ε s) Q u = Ev (evE Φ (.var a) ε s) fun v s => Ev (bln v s) Q) ∧
    (∀ Φ a ε s (Q : Option Int → Sto → Prop) (u : Lk Q), Ev (evO Φ (.cst a) ε s) Q u = Ev (evE Φ (.cst a) ε s) fun v s => Ev (intO v s) Q) ∧
    (∀ Φ a ε s (Q : Option Int → Sto → Prop) (u : Lk Q), Ev (evO Φ (.neg a) ε s) Q u = Ev (evE Φ (.neg a) ε s) fun v s => Ev (intO v s) Q) ∧
    (∀ Φ a ε s (Q : Bool → Sto → Prop) (u : Lk Q), Ev (evC Φ (.notv a) ε s) Q u = Ev (evE Φ (.notv a) ε s) fun v s => Ev (bln v s) Q) ∧
    (∀ Φ a b c ε s (Q : Option Int → Sto → Prop) (u : Lk Q), Ev (evO Φ (.bin a b c) ε s) Q u = Ev (evE Φ (.bin a b c) ε s) fun v s => Ev (intO v s) Q) ∧
    (∀ Φ a b c ε s (Q : Bool → Sto → Prop) (u : Lk Q), Ev (evC Φ (.cmp a b c) ε s) Q u = Ev (evE Φ (.cmp a b c) ε s) fun v s => Ev (bln v s) Q) ∧
    (∀ Φ a b ε s (Q : Option Int → Sto → Prop) (u : Lk Q), Ev (evO Φ (.sub a b) ε s) Q u = Ev (evE Φ (.sub a b) ε s) fun v s => Ev (intO v s) Q) ∧
    (∀ Φ a b ε s (Q : Option Int → Sto → Prop) (u : Lk Q), Ev (evO Φ (.dsub a b) ε s) Q u = Ev (evE Φ (.dsub a b) ε s) fun v s => Ev (intO v s) Q) ∧
    (∀ Φ a b c ε s (Q : Option Int → Sto → Prop) (u : Lk Q), Ev (evO Φ (.bi a b c) ε s) Q u = Ev (evE Φ (.bi a b c) ε s) fun v s => Ev (intO v s) Q) ∧
    (∀ Φ a b c ε s (Q : Bool → Sto → Prop) (u : Lk Q), Ev (evC Φ (.bi a b c) ε s) Q u = Ev (evE Φ (.bi a b c) ε s) fun v s => Ev (bln v s) Q) ∧
    (∀ Φ a b c ε s (Q : Option Int → Sto → Prop) (u : Lk Q), Ev (evO Φ (.me a b c) ε s) Q u = Ev (evE Φ (.me a b c) ε s) fun v s => Ev (intO v s) Q) ∧
    (∀ Φ a b c ε s (Q : Option Int → Sto → Prop) (u : Lk Q), Ev (evO Φ (.call a b c) ε s) Q u = Ev (evE Φ (.call a b c) ε s) fun v s => Ev (intO v s) Q) ∧
    (∀ Φ a b c ε s (Q : Bool → Sto → Prop) (u : Lk Q), Ev (evC Φ (.call a b c) ε s) Q u = Ev (evE Φ (.call a b c) ε s) fun v s => Ev (bln v s) Q) ∧
    (∀ Φ a b ε s (Q : Bool → Sto → Prop) (u : Lk Q), Ev (evC Φ (.callv a b) ε s) Q u = Ev (evE Φ (.callv a b) ε s) fun v s => Ev (bln v s) Q) ∧
    (∀ Φ a b c ε s (Q : Option Int → Sto → Prop) (u : Lk Q), Ev (evO Φ (.ife a b c) ε s) Q u = Ev (evE Φ (.ife a b c) ε s) fun v s => Ev (intO v s) Q) ∧
    (∀ Φ a b c ε s (Q : Bool → Sto → Prop) (u : Lk Q), Ev (evC Φ (.ife a b c) ε s) Q u = Ev (evE Φ (.ife a b c) ε s) fun v s => Ev (bln v s) Q) ∧
    (∀ Φ a b ε s (Q : Bool → Sto → Prop) (u : Lk Q), Ev (evC Φ (.andv a b) ε s) Q u = Ev (evE Φ (.andv a b) ε s) fun v s => Ev (bln v s) Q) ∧
    (∀ Φ a b ε s (Q : Bool → Sto → Prop) (u : Lk Q), Ev (evC Φ (.orv a b) ε s) Q u = Ev (evE Φ (.orv a b) ε s) fun v s => Ev (bln v s) Q) ∧
    (∀ Φ a b c d e ε s (Q : Bool → Sto → Prop) (u : Lk Q), Ev (evC Φ (.chain a b c d e) ε s) Q u = Ev (evE Φ (.chain a b c d e) ε s) fun v s => Ev (bln v s) Q) ∧
    (∀ Φ a b c ε s (Q : Bool → Sto → Prop) (u : Lk Q), Ev (evC Φ (.din a b c) ε s) Q u = Ev (evE Φ (.din a b c) ε s) fun v s => Ev (bln v s) Q) ∧
    (∀ Φ a b c ε s (Q : Bool → Sto → Prop) (u : Lk Q), Ev (evC Φ (.ing a b c) ε s) Q u = Ev (evE Φ (.ing a b c) ε s) fun v s => Ev (bln v s) Q) ∧
    (∀ Φ a b c ε s (Q : Bool → Sto → Prop) (u : Lk Q), Ev (evC Φ (.rep a b c) ε s) Q u = Ev (evE Φ (.rep a b c) ε s) fun v s => Ev (bln v s) Q) ∧
    (∀ Φ a b ε s (Q : Bool → Sto → Prop) (u : Lk Q), Ev (evC Φ (.isi a b) ε s) Q u = Ev (evE Φ (.isi a b) ε s) fun v s => Ev (bln v s) Q) := by
  refine ⟨?_, ?_, ?_, ?_, ?_, ?_, ?_, ?_, ?_, ?_, ?_, ?_, ?_, ?_, ?_, ?_, ?_, ?_, ?_, ?_, ?_, ?_, ?_, ?_, ?_, ?_, ?_, ?_, ?_, ?_, ?_, ?_, ?_, ?_, ?_, ?_, ?_, ?_, ?_, ?_, ?_, ?_, ?_, ?_, ?_, ?_, ?_, ?_, ?_, ?_, ?_, ?_, ?_, ?_, ?_, ?_, ?_, ?_, ?_, ?_, ?_, ?_, ?_, ?_, ?_, ?_, ?_, ?_, ?_, ?_, ?_, ?_, ?_, ?_, ?_, ?_, ?_, ?_, ?_, ?_, ?_, ?_, ?_, ?_, ?_, ?_, ?_, ?_, ?_, ?_, ?_, ?_, ?_, ?_, ?_, ?_, ?_, ?_, ?_, ?_, ?_, ?_, ?_, ?_, ?_, ?_, ?_, ?_, ?_, ?_, ?_, ?_, ?_, ?_, ?_, ?_, ?_, ?_, ?_, ?_, ?_, ?_, ?_, ?_, ?_, ?_, ?_, ?_, ?_, ?_, ?_, ?_, ?_, ?_, ?_, ?_⟩ <;> intros
  all_goals first
    | rfl
    | (rw [dctOf_o']; done)
    | (rename_i ε k js s Q u; show Ev ((match capD ε js with | some ws => M.pure (.c k ws) | none => M.bad : M Val) s) Q u = _; cases capD ε js <;> rfl)
    | (rw [evO]; · exact Ev_bindc fun _ _ => rfl
       · intro h; cases h)
    | (rw [evC]; · exact Ev_bindc fun _ _ => rfl
       · intro h; cases h)
    | (unfold datP; first | exact Ev_ifc rfl rfl | skip)
    | (first | unfold dats | unfold binD | unfold mkT | unfold eqD | unfold inD | unfold inCmp | unfold cmpD | unfold subV | unfold slcV | unfold storeL | unfold askD | unfold subD | unfold storeD | unfold rcvV | unfold meV | unfold biV | unfold itV | skip
       (repeat' (first
          | rfl
          | (rw [vw_of]; refine Ev_bindc fun _ _ => ?_)
          | (rw [bv1]; refine Ev_bindc fun _ _ => ?_)
          | (rw [bv2]; refine Ev_bindc fun _ _ => ?_)
          | refine Ev_bindc fun _ _ => ?_
          | refine Ev_ifc ?_ ?_
          | refine Ev_ifPc ?_ ?_
          | refine Ev_ofO fun _ _ => ?_
          | refine Ev_lst fun _ => ?_
          | refine Ev_dct fun _ _ => ?_
          | refine Ev_seq fun _ _ => ?_
          | refine Ev_hd fun _ _ => ?_
          | (rename_i x s; cases seqOf x <;> first | rfl | exact Ev_ifc rfl rfl))))
theorem fxW : (∀ v r s (Q : List PyData → Sto → Prop) (u : Lk Q), Ev (dats (v :: r) s) Q u = Ev (datP v s) fun x s => Ev (dats r s) fun xs s => Q (x :: xs) s) ∧
    (∀ op x l s (Q : Bool → Sto → Prop) (u : Lk Q), Ev (inCmp op (.d x) (.o l) s) Q u = Ev (lstM (s[l]?) s) fun ys s => Ev (cmpD op x (.list ys) s) Q) ∧
    (∀ xs k s (Q : Val → Sto → Prop) (u : Lk Q), Ev (subV (.d (.list xs)) (.int k) s) Q u = Ev (ofO (L2.atI xs k) s) fun y s => Q (.d y) s) ∧
    (∀ xs k s (Q : Val → Sto → Prop) (u : Lk Q), Ev (subV (.d (.tuple xs)) (.int k) s) Q u = Ev (ofO (L2.atI xs k) s) fun y s => Q (.d y) s) ∧
    (∀ (z : Str) k s (Q : Val → Sto → Prop) (u : Lk Q), Ev (subV (.d (.str z)) (.int k) s) Q u = Ev (ofO (L2.atI z.cps.toList k) s) fun c s => Q (.d (.str ⟨#[c]⟩)) s) ∧
    (∀ l k s (Q : Val → Sto → Prop) (u : Lk Q), Ev (subV (.o l) (.int k) s) Q u = Ev (lstM (s[l]?) s) fun xs s => Ev (ofO (L2.atI xs k) s) fun y s => Q (.d y) s) ∧
    (∀ l k x s (Q : Unit → Sto → Prop) (u : Lk Q), Ev (storeL (.o l) (.int k) x s) Q u = Ev (lstM (s[l]?) s) fun xs s => Ev (ofO (L2.ixN xs.length k) s) fun j s => Q () (s.set l (.lst (xs.set j x)))) ∧
    (∀ v k s (Q : Val → Sto → Prop) (u : Lk Q), Ev (subD v k s) Q u = Ev (askD v k s) fun o s => Ev (ofO o s) fun x s => Q (.d x) s) ∧
    (∀ l k x s (Q : Unit → Sto → Prop) (u : Lk Q), Ev (storeD (.o l) k x s) Q u = Ev (dctM (s[l]?) s) fun p s => if (isKey k && (isTk k == p.1) && decide (p.2.length < sizeLine)) = true then Q () (s.set l (.dct p.1 (putD p.2 k x))) else False) ∧
    (∀ a v s (Q : Val → Sto → Prop) (u : Lk Q), Ev (meV .index a [v] s) Q u = Ev (dat v s) fun x s => Ev (vw a s) fun y s => Ev (ofO (seqOf y) s) fun xs s => if findOk x = true then Ev (ofO (SeqAt.dataPlace xs x) s) (fun i s => Q (.d (.int (i : Nat))) s) else False) ∧
    (∀ a v s (Q : Val → Sto → Prop) (u : Lk Q), Ev (meV .count a [v] s) Q u = Ev (dat v s) fun x s => Ev (vw a s) fun y s => Ev (ofO (seqOf y) s) fun xs s => if findOk x = true then Q (.d (.int (xs.countP fun z => PyData.eqv z x : Nat))) s else False) ∧
    (∀ l v s (Q : Val → Sto → Prop) (u : Lk Q), Ev (meV .append (.o l) [v] s) Q u = Ev (datP v s) fun x s => Ev (lstM (s[l]?) s) fun xs s => if xs.length < sizeLine then Q (.d .none) (s.set l (.lst (xs ++ [x]))) else False) ∧
    (∀ l w s (Q : Val → Sto → Prop) (u : Lk Q), Ev (meV .extend (.o l) [w] s) Q u = Ev (lstM (s[l]?) s) fun xs s => Ev (vw w s) fun z s => Ev (ofO (lstOf z) s) fun ys s => if xs.length + ys.length ≤ sizeLine then Q (.d .none) (s.set l (.lst (xs ++ ys))) else False) ∧
    (∀ ob l s (Q : Val → Sto → Prop) (u : Lk Q), Ev (biV .len ob [.o l] s) Q u = Ev (lstM (s[l]?) s) fun xs s => Q (.d (.int xs.length)) s) ∧
    (∀ ob l s (Q : Val → Sto → Prop) (u : Lk Q), Ev (biV .maxVals ob [.o l] s) Q u = Ev (dctM (s[l]?) s) fun p s => if p.1 = true then False else Ev (ofO (intsOf (p.2.map (·.2))) s) (fun ns s => Ev (ofO (hdO ns) s) fun p s => Q (.d (.int (maxI p.1 p.2))) s)) ∧
    (∀ ob l s (Q : Val → Sto → Prop) (u : Lk Q), Ev (biV .minVals ob [.o l] s) Q u = Ev (dctM (s[l]?) s) fun p s => if p.1 = true then False else Ev (ofO (intsOf (p.2.map (·.2))) s) (fun ns s => Ev (ofO (hdO ns) s) fun p s => Q (.d (.int (minI p.1 p.2))) s)) ∧
    (∀ ob xs s (Q : Val → Sto → Prop) (u : Lk Q), Ev (biV .sum ob [.d (.list xs)] s) Q u = Ev (ofO (intsOf xs) s) fun ns s => Q (.d (.int ns.sum)) s) ∧
    (∀ ob xs s (Q : Val → Sto → Prop) (u : Lk Q), Ev (biV .all ob [.d (.list xs)] s) Q u = Ev (ofO (boolsOf xs) s) fun ns s => Q (.d (.bool (ns.all id))) s) ∧
    (∀ ob xs s (Q : Val → Sto → Prop) (u : Lk Q), Ev (biV .any ob [.d (.list xs)] s) Q u = Ev (ofO (boolsOf xs) s) fun ns s => Q (.d (.bool (ns.any id))) s) ∧
    (∀ ob v s (Q : Val → Sto → Prop) (u : Lk Q), Ev (biV .tuple ob [v] s) Q u = Ev (vw v s) fun x s => Ev (ofO (seqOf x) s) fun xs s => Q (.d (.tuple xs)) s) ∧
    (∀ ob v s (Q : Val → Sto → Prop) (u : Lk Q), Ev (biV .list ob [v] s) Q u = Ev (vw v s) fun x s => Ev (ofO (seqOf x) s) fun xs s => Ev (mkL ob xs s) Q) ∧
    (∀ ob v s (Q : Val → Sto → Prop) (u : Lk Q), Ev (biV .sortedSet ob [v] s) Q u = Ev (vw v s) fun x s => Ev (ofO (seqOf x) s) fun xs s => Ev (ofO (intsOf xs) s) fun ns s => if ns.length < 64 then Ev (mkL ob ((setI ns).map .int) s) Q else False) := by
  refine ⟨?_, ?_, ?_, ?_, ?_, ?_, ?_, ?_, ?_, ?_, ?_, ?_, ?_, ?_, ?_, ?_, ?_, ?_, ?_, ?_, ?_, ?_⟩ <;> intros
  · show Ev (M.bind (datP _) _ _) _ _ = _
    exact Ev_bindc fun _ _ => Ev_bindc fun _ _ => rfl
  · show Ev (M.bind (vw (Val.o _)) _ _) _ _ = _
    rw [bv1]
    exact Ev_bindc fun _ _ => rfl
  · rename_i xs k s Q u
    show Ev ((match L2.atI xs k with | some y => M.pure (.d y) | none => M.bad : M Val) s) Q u = _
    cases L2.atI xs k <;> rfl
  · rename_i xs k s Q u
    show Ev ((match L2.atI xs k with | some y => M.pure (.d y) | none => M.bad : M Val) s) Q u = _
    cases L2.atI xs k <;> rfl
  · rename_i z k s Q u
    show Ev ((match L2.atI z.cps.toList k with | some c => M.pure (.d (.str ⟨#[c]⟩)) | none => M.bad : M Val) s) Q u = _
    cases L2.atI z.cps.toList k <;> rfl
  · rename_i l k s Q u
    show Ev (M.bind (vw (Val.o _)) _ _) _ _ = _
    rw [bv1]
    refine Ev_bindc fun xs s => ?_
    show Ev ((match L2.atI xs k with | some y => M.pure (.d y) | none => M.bad : M Val) s) Q = _
    cases L2.atI xs k <;> rfl
  · rename_i l k x s Q u
    show Ev (M.bind (vw (Val.o _)) _ _) _ _ = _
    rw [bv1]
    refine Ev_bindc fun xs s => ?_
    show Ev ((match L2.ixN xs.length k with | some j => setO l (.lst (xs.set j x)) | none => M.bad : M Unit) s) Q = _
    cases L2.ixN xs.length k <;> rfl
  · rename_i v k s Q u
    show Ev (M.bind (askD _ _) _ _) _ _ = _
    refine Ev_bindc fun o s => ?_
    cases o <;> rfl
  · rename_i l k x s Q u
    show Ev (M.bind (dctOf (Val.o _)) _ _) _ _ = _
    rw [bv2]
    refine Ev_bindc fun p s => ?_
    exact Ev_ifc rfl rfl
  · rename_i a v s Q u
    show Ev (M.bind (dat _) _ _) _ _ = _
    refine Ev_bindc fun x s => ?_
    refine Ev_bindc fun y s => ?_
    cases e : seqOf y with
    | none => rfl
    | some xs =>
      show _ = if findOk x = true then _ else _
      refine Ev_ifc ?_ rfl
      cases SeqAt.dataPlace xs x <;> rfl
  · rename_i a v s Q u
    show Ev (M.bind (dat _) _ _) _ _ = _
    refine Ev_bindc fun x s => ?_
    refine Ev_bindc fun y s => ?_
    cases e : seqOf y with
    | none => rfl
    | some xs => exact Ev_ifc rfl rfl
  · rename_i l v s Q u
    show Ev (M.bind (datP _) _ _) _ _ = _
    refine Ev_bindc fun x s => ?_
    show Ev (M.bind (vw (Val.o _)) _ _) _ _ = _
    rw [bv1]
    refine Ev_bindc fun xs s => ?_
    exact Ev_ifPc rfl rfl
  · rename_i l w s Q u
    show Ev (M.bind (vw (Val.o _)) _ _) _ _ = _
    rw [bv1]
    refine Ev_bindc fun xs s => ?_
    refine Ev_bindc fun z s => ?_
    cases z with
    | list ys => exact Ev_ifPc rfl rfl
    | _ => rfl
  · show Ev (M.bind (vw (Val.o _)) _ _) _ _ = _
    rw [bv1]
    exact Ev_bindc fun _ _ => rfl
  · show Ev (M.bind (dctOf (Val.o _)) _ _) _ _ = _
    rw [bv2]
    refine Ev_bindc fun p s => ?_
    obtain ⟨k, ps⟩ := p
    cases k with
    | true => rfl
    | false =>
      show _ = Ev (ofO (intsOf (ps.map (·.2))) s) _
      cases e : intsOf (ps.map (·.2)) with
      | none => rfl
      | some ns => cases ns <;> rfl
  · show Ev (M.bind (dctOf (Val.o _)) _ _) _ _ = _
    rw [bv2]
    refine Ev_bindc fun p s => ?_
    obtain ⟨k, ps⟩ := p
    cases k with
    | true => rfl
    | false =>
      show _ = Ev (ofO (intsOf (ps.map (·.2))) s) _
      cases e : intsOf (ps.map (·.2)) with
      | none => rfl
      | some ns => cases ns <;> rfl
  · rename_i ob xs s Q u
    show Ev ((match intsOf xs with | some ns => int ns.sum | none => M.bad : M Val) s) Q u = _
    cases intsOf xs <;> rfl
  · rename_i ob xs s Q u
    show Ev ((match boolsOf xs with | some bs => bool (bs.all id) | none => M.bad : M Val) s) Q u = _
    cases boolsOf xs <;> rfl
  · rename_i ob xs s Q u
    show Ev ((match boolsOf xs with | some bs => bool (bs.any id) | none => M.bad : M Val) s) Q u = _
    cases boolsOf xs <;> rfl
  · rename_i ob v s Q u
    show Ev (M.bind (vw _) _ _) _ _ = _
    refine Ev_bindc fun x s => ?_
    cases seqOf x <;> rfl
  · rename_i ob v s Q u
    show Ev (M.bind (vw _) _ _) _ _ = _
    refine Ev_bindc fun x s => ?_
    cases seqOf x <;> rfl
  · rename_i ob v s Q u
    show Ev (M.bind (vw _) _ _) _ _ = _
    refine Ev_bindc fun x s => ?_
    cases seqOf x with
    | none => rfl
    | some xs =>
      show Ev ((match intsOf xs with | some ns => if ns.length < 64 then mkL ob ((setI ns).map .int) else M.bad | none => M.bad : M Val) s) Q = Ev (ofO (intsOf xs) s) _
      cases intsOf xs with
      | none => rfl
      | some ns => exact Ev_ifPc rfl rfl
end Fx

set_option Elab.async false
set_option linter.all false
set_option maxRecDepth 100000
set_option maxHeartbeats 1000000
/-! Fy3: loops, calls, items, places of the store. -/
namespace Fx
open PySem
section
variable {α : Type}
theorem atI_nat (xs : List α) (n : Nat) : L2.atI xs (n : Int) = xs[n]? := by
  unfold L2.atI L2.ixN
  rw [if_pos (by omega)]
  by_cases h : (n : Int) < xs.length
  · rw [if_pos h]
    show xs[(n : Int).toNat]? = _
    rw [Int.toNat_natCast]
  · rw [if_neg h]
    show none = _
    rw [List.getElem?_eq_none (by omega)]
theorem atI_of {xs : List α} {i : Int} (h : 0 ≤ i) : L2.atI xs i = xs[i.toNat]? := by
  have e : i = (i.toNat : Int) := by omega
  rw [e, atI_nat, Int.toNat_natCast]
theorem atI_neg (xs : List α) : L2.atI xs (-1) = xs.getLast? := by
  unfold L2.atI L2.ixN
  rw [if_neg (by omega)]
  by_cases h : xs = []
  · subst h
    rfl
  · have hl := List.length_pos_iff.mpr h
    rw [if_pos (by omega)]
    show xs[((-1 : Int) + xs.length).toNat]? = _
    rw [List.getLast?_eq_getElem?]
    congr 1
    omega
theorem at0 (xs : List α) : L2.atI xs 0 = xs[0]? := atI_nat xs 0
theorem at1 (xs : List α) : L2.atI xs 1 = xs[1]? := atI_nat xs 1
theorem at2 (xs : List α) : L2.atI xs 2 = xs[2]? := atI_nat xs 2
theorem at3 (xs : List α) : L2.atI xs 3 = xs[3]? := atI_nat xs 3
theorem ixN_nat {n i : Nat} (h : i < n) : L2.ixN n (i : Int) = some i := by
  unfold L2.ixN
  rw [if_pos (by omega), if_pos (by omega), Int.toNat_natCast]
theorem ixN_of {n : Nat} {i : Int} (h : 0 ≤ i) (h2 : i < n) : L2.ixN n i = some i.toNat := by
  have e : i = (i.toNat : Int) := by omega
  rw [e, ixN_nat (by omega), Int.toNat_natCast]
theorem ix0 {n : Nat} (h : 0 < n) : L2.ixN n 0 = some 0 := ixN_nat (i := 0) h
end
/-! ### calls -/
theorem call_fn {p : Prog} {k : Nat} {f : Str} {n m : Nat} {b : Ss} {vs : List Val} {s : Sto} {Q : Val → Sto → Prop} {u : Lk Q} (h : p.fns f = some ⟨n, m, b⟩) (hl : vs.length = m) :
    Ev ((tbl p (k + 1)).fn f vs s) Q u = Ev (evSs (tbl p k) b (startE n vs) s) (retQ Q) := by
  have e : (tbl p (k + 1)).fn f vs s = runF (tbl p k) ⟨n, m, b⟩ vs s := by
    show (match p.fns f with
      | some fn => runF (tbl p k) fn vs
      | none => M.bad) s = _
    rw [h]
  rw [e, r_runF hl]
theorem call_cl {p : Prog} {k c : Nat} {n m : Nat} {b : Ss} {vs : List Val} {ws : List PyData} {s : Sto} {Q : Val → Sto → Prop} {u : Lk Q} (h : p.cls c = some ⟨n, m, b⟩) (hl : (vs ++ ws.map Val.d).length = m) :
    Ev ((tbl p (k + 1)).cl c ws vs s) Q u = Ev (evSs (tbl p k) b (startE n (vs ++ ws.map Val.d)) s) (retQ Q) := by
  have e : (tbl p (k + 1)).cl c ws vs s = runF (tbl p k) ⟨n, m, b⟩ (vs ++ ws.map Val.d) s := by
    show (match p.cls c with
      | some fn => runF (tbl p k) fn (vs ++ ws.map Val.d)
      | none => M.bad) s = _
    rw [h]
  rw [e, r_runF hl]
theorem perm0 (vs : List Val) : perm [] vs = some vs := rfl
/-! ### loops -/
theorem for_inv {f : PyData → Env → M Fl} {xs : List PyData} {Q : Fl → Sto → Prop} (I : Nat → Env → Sto → Prop)
    (hs : ∀ i x ε s, xs[i]? = some x → I i ε s → Ev (f x ε s) fun w s => match w with
      | .nx ε => I (i + 1) ε s
      | .ct ε => I (i + 1) ε s
      | .bk ε => Q (.nx ε) s
      | .rt v => Q (.rt v) s) (he : ∀ ε s, I xs.length ε s → Q (.nx ε) s) : ∀ {ε s u}, I 0 ε s → Ev (forS f none xs ε s) Q u := by
  suffices h : ∀ (r : List PyData) (i : Nat), xs.drop i = r → i ≤ xs.length → ∀ ε s u, I i ε s → Ev (forS f none r ε s) Q u from fun {ε s u} h0 => h xs 0 rfl (Nat.zero_le _) ε s u h0
  intro r
  induction r with
  | nil =>
    intro i e hi ε s u h
    have : i = xs.length := by
      have := congrArg List.length e
      rw [List.length_drop, List.length_nil] at this
      omega
    subst this
    exact he ε s h
  | cons x r ih =>
    intro i e hi ε s u h
    have hx : xs[i]? = some x := by
      have := congrArg (fun l => l[0]?) e
      simpa using this
    have hr : xs.drop (i + 1) = r := by
      rw [← List.drop_drop, e]
      rfl
    have hl : i + 1 ≤ xs.length := by
      have := (List.getElem?_eq_some_iff.mp hx).1
      omega
    show Ev (M.bind (f x ε) _ s) Q u
    rw [Ev_bind]
    refine (hs i x ε s hx h).imp fun w s' hw => ?_
    cases w with
    | nx ε' => exact ih (i + 1) hr hl ε' s' _ hw
    | ct ε' => exact ih (i + 1) hr hl ε' s' _ hw
    | bk ε' => exact hw
    | rt v => exact hw
theorem whl_inv {c : Env → M Bool} {f : Env → M Fl} {Q : Fl → Sto → Prop} (I : Nat → Env → Sto → Prop)
    (hs : ∀ m ε s, I m ε s → Ev (c ε s) fun b s => if b = true then Ev (f ε s) (fun w s => match w with
      | .nx ε => ∃ m', m' < m ∧ I m' ε s
      | .ct ε => ∃ m', m' < m ∧ I m' ε s
      | .bk ε => Q (.nx ε) s
      | .rt v => Q (.rt v) s) else Q (.nx ε) s) : ∀ {n m ε s u}, m < n → I m ε s → Ev (whlS c f n ε s) Q u := by
  intro n
  induction n with
  | zero => intro m ε s u h; omega
  | succ n ih =>
    intro m ε s u hm h
    show Ev (M.bind (c ε) _ s) Q u
    rw [Ev_bind]
    refine (hs m ε s h).imp fun b s' hb => ?_
    cases b with
    | false =>
      rw [if_neg (by decide)] at hb
      exact hb
    | true =>
      rw [if_pos rfl] at hb
      show Ev (M.bind (f ε) _ s') Q
      rw [Ev_bind]
      refine hb.imp fun w s'' hw => ?_
      cases w with
      | nx ε' => obtain ⟨m', h1, h2⟩ := hw; exact ih (by omega) h2
      | ct ε' => obtain ⟨m', h1, h2⟩ := hw; exact ih (by omega) h2
      | bk ε' => exact hw
      | rt v => exact hw
/-- a comprehension: what each item gives, the store in an invariant -/
theorem cat_inv {f : PyData → M (List (PyData × PyData))} {xs : List PyData} {Q : List (PyData × PyData) → Sto → Prop} (I : Nat → List (PyData × PyData) → Sto → Prop)
    (hs : ∀ i x acc s, xs[i]? = some x → I i acc s → Ev (f x s) fun ys s => I (i + 1) (acc ++ ys) s) (he : ∀ acc s, I xs.length acc s → Q acc s) : ∀ {s u}, I 0 [] s → Ev (catL f none xs s) Q u := by
  suffices h : ∀ (r : List PyData) (i : Nat), xs.drop i = r → i ≤ xs.length → ∀ acc s (Q' : List (PyData × PyData) → Sto → Prop) u, (∀ ys s, Q (acc ++ ys) s → Q' ys s) → I i acc s → Ev (catL f none r s) Q' u from fun {s u} h0 => h xs 0 rfl (Nat.zero_le _) [] s Q u (fun ys s h => h) h0
  intro r
  induction r with
  | nil =>
    intro i e hi acc s Q' u hq h
    have : i = xs.length := by
      have := congrArg List.length e
      rw [List.length_drop, List.length_nil] at this
      omega
    subst this
    exact hq [] s (by rw [List.append_nil]; exact he acc s h)
  | cons x r ih =>
    intro i e hi acc s Q' u hq h
    have hx : xs[i]? = some x := by
      have := congrArg (fun l => l[0]?) e
      simpa using this
    have hr : xs.drop (i + 1) = r := by
      rw [← List.drop_drop, e]
      rfl
    have hl : i + 1 ≤ xs.length := by
      have := (List.getElem?_eq_some_iff.mp hx).1
      omega
    show Ev (M.bind (f x) _ s) Q' u
    rw [Ev_bind]
    refine (hs i x acc s hx h).imp fun ys s' hy => ?_
    show Ev (M.bind (gdOk none) _ s') Q'
    rw [Ev_bind]
    show Ev (M.bind (catL f none r) _ s') Q'
    rw [Ev_bind]
    exact ih (i + 1) hr hl (acc ++ ys) s' _ _ (fun zs s'' hz => hq _ _ (by rw [← List.append_assoc]; exact hz)) hy
/-- .. that leaves the store as it is -/
theorem cat_pure {f : PyData → M (List (PyData × PyData))} (F : PyData → List (PyData × PyData)) {xs : List PyData} {s : Sto} {Q : List (PyData × PyData) → Sto → Prop} {u : Lk Q} (h : ∀ x ∈ xs, Ev (f x s) fun ys s' => ys = F x ∧ s' = s) (hq : Q (xs.flatMap F) s) : Ev (catL f none xs s) Q u := by
  refine cat_inv (fun i acc s' => acc = (xs.take i).flatMap F ∧ s' = s) (fun i x acc s' hx hi => ?_) (fun acc s' hi => ?_) ⟨rfl, rfl⟩
  · obtain ⟨rfl, rfl⟩ := hi
    refine (h x (List.mem_of_getElem? hx)).imp fun ys s'' hy => ?_
    obtain ⟨rfl, rfl⟩ := hy
    refine ⟨?_, rfl⟩
    rw [List.take_add_one, hx, List.flatMap_append]
    simp
  · obtain ⟨rfl, rfl⟩ := hi
    rw [List.take_length]
    exact hq
/-! ### places of the store -/
theorem get_set {s : Sto} {l : Nat} {c : Cel} (h : l < s.length) : (s.set l c)[l]? = some c := List.getElem?_set_self h
theorem lt_of {s : Sto} {l : Nat} {c : Cel} (h : s[l]? = some c) : l < s.length := (List.getElem?_eq_some_iff.mp h).1
/-! ### small things -/
theorem fxM : (∀ n vs, startE n vs = vs.map (fun v => some (.v v)) ++ List.replicate (n - vs.length) none) ∧ (∀ ε i v, setE ε i v = ε.set i (some (.v v))) ∧
    (∀ b, isDct (.bool b) = false) ∧ (isDct .none = false) ∧ (∀ b, isDct (.int b) = false) ∧ (∀ b, isDct (.str b) = false) ∧ (∀ b, isDct (.list b) = false) ∧ (∀ b, isDct (.tuple b) = false) ∧
    (tsLen .nil = 0) ∧ (∀ t ts, tsLen (.cons t ts) = tsLen ts + 1) ∧
    (∀ ε own, blkE ε own = wipeE (ε.map dropN) own) ∧ (∀ ε, wipeE ε [] = ε) ∧ (∀ ε j js, wipeE ε (j :: js) = (wipeE ε js).set j none) ∧
    (dropN none = none) ∧ (∀ x, dropN (some (.v (.d x))) = some (.v (.d x))) ∧ (∀ x, dropN (some (.v (.o x))) = some (.v (.o x))) ∧ (∀ x, dropN (some (.v (.g x))) = some (.v (.g x))) ∧ (∀ k js, dropN (some (.nd k js)) = none) ∧ (∀ k ws, dropN (some (.v (.c k ws))) = none) ∧
    (∀ vs, perm [] vs = some vs) ∧ (∀ k ws, isF (.c k ws) = true) ∧ (∀ f, isF (.g f) = true) ∧ (∀ Φ k ws vs, callV Φ (.c k ws) vs = Φ.cl k ws vs) ∧ (∀ Φ f vs, callV Φ (.g f) vs = Φ.fn f vs) ∧
    (∀ ε, evPar .nil [] ε = some ε) ∧ (∀ i ts x r ε, evPar (.cons (.nm i) ts) (.d x :: r) ε = evPar ts r (setE ε i (.d x))) ∧ (∀ i ts x r ε, evPar (.cons (.nm i) ts) (.o x :: r) ε = evPar ts r (setE ε i (.o x))) ∧
    (∀ xs, seqOf (.list xs) = some xs) ∧ (∀ xs, seqOf (.tuple xs) = some xs) ∧ (∀ xs, lstOf (.list xs) = some xs) ∧ (∀ m r, hdO (m :: r) = some (m, r)) := by
  refine ⟨fun _ _ => rfl, fun _ _ _ => rfl, fun _ => rfl, rfl, fun _ => rfl, fun _ => rfl, fun _ => rfl, fun _ => rfl, rfl, fun _ _ => rfl, fun _ _ => rfl, fun _ => rfl, fun _ _ _ => rfl, rfl, fun _ => rfl, fun _ => rfl, fun _ => rfl, fun _ _ => rfl, fun _ _ => rfl, fun _ => rfl, fun _ _ => rfl, fun _ => rfl, fun _ _ _ _ => rfl, fun _ _ _ => rfl, fun _ => rfl, fun _ _ _ _ _ => rfl, fun _ _ _ _ _ => rfl, fun _ => rfl, fun _ => rfl, fun _ => rfl, fun _ _ => rfl⟩
/-- what is told of small numbers -/
theorem small_of {i : Int} (h : i.natAbs < 2 ^ 64) : small64 i = true := decide_eq_true h
theorem fxI : (small64 3 = true) ∧ (small64 7 = true) ∧ (small64 13 = true) ∧ (small64 41 = true) ∧ (small64 59 = true) ∧ (small64 8111 = true) ∧ (small64 15013 = true) ∧ (small64 30011 = true) ∧ (small64 30029 = true) ∧ (small64 40009 = true) ∧ (small64 50021 = true) ∧ (L2.ixN 3 0 = some 0) ∧ (L2.ixN 3 1 = some 1) ∧ (L2.ixN 3 2 = some 2) := ⟨small_of (by decide), small_of (by decide), small_of (by decide), small_of (by decide), small_of (by decide), small_of (by decide), small_of (by decide), small_of (by decide), small_of (by decide), small_of (by decide), small_of (by decide), rfl, rfl, rfl⟩
end Fx

set_option Elab.async false
set_option linter.all false
set_option maxRecDepth 100000
set_option maxHeartbeats 4000000
/-! Fy4: what the laws draw: a number, one of some things. -/
namespace Fx
open PySem
local macro_rules | `(tactic| walk_at "fx") => `(tactic| simp only [fxS, fxE, fxV, fxW, fxM, fxI, at0, at1, at2, at3, atI_nat, List.map_cons, List.map_nil, List.length_cons, List.length_nil, List.length_set, List.set_set, List.replicate_succ, List.replicate_zero, List.cons_append, List.nil_append, List.getElem?_cons_zero, List.getElem?_cons_succ, List.set_cons_zero, List.set_cons_succ, Bool.false_eq_true, if_false, if_true, Bool.and_self, Bool.or_true, Bool.true_or, decide_true, decide_false, Nat.reduceAdd, Nat.reduceSub, Int.reduceLT, Int.reduceLE, Nat.reduceLT, Nat.reduceLeDiff, reduceCtorEq, List.getElem?_nil, and_true, true_and, *])
def i_take : Ss := (.cons (.ifs (.cmp .Gt (.sub (.var 0) (.cst (.int 0))) (.cst (.int 0)))
 (.cons (.asg (.tp (.cons (.sb (.var 0) (.cst (.int 0))) (.cons (.nm 2) .nil))) (.bi .divmod false (.cons (.sub (.var 0) (.cst (.int 0))) (.cons (.var 1) .nil))))
 (.cons (.ret (.var 2))
 .nil))
 .nil)
 (.cons (.asg (.sb (.var 0) (.cst (.int 2))) (.bin .Add (.sub (.var 0) (.cst (.int 2))) (.cst (.int 1))))
 (.cons (.asg (.nm 3) (.bin .Mod (.bi .int false (.cons (.bin .Add (.bin .Mult (.sub (.var 0) (.cst (.int 1))) (.cst (.int 40009))) (.bin .Mult (.cst (.int 15013)) (.sub (.var 0) (.cst (.int 2))))) .nil)) (.cst (.int 2147483629))))
 (.cons (.asg (.sb (.var 0) (.cst (.int 1))) (.bin .Mod (.bi .int false (.cons (.bin .Add (.bin .Mult (.var 3) (.bin .Add (.bin .Mod (.bi .int false (.cons (.var 3) .nil)) (.cst (.int 5003))) (.cst (.int 30011)))) (.bin .Mult (.cst (.int 3)) (.sub (.var 0) (.cst (.int 2))))) .nil)) (.cst (.int 2147483629))))
 (.cons (.ret (.bin .Mod (.bi .int false (.cons (.bin .FloorDiv (.sub (.var 0) (.cst (.int 1))) (.cst (.int 907))) .nil)) (.var 1)))
 .nil)))))
def i_of : Ss := (.cons (.ret (.sub (.var 1) (.call "_law_take" (.cons (.var 0) (.cons (.bi .len false (.cons (.var 1) .nil)) .nil)) [])))
 .nil)
def i_names : Ss := (.cons (.par (.cons (.nm 2) (.cons (.nm 3) .nil)) (.cons (.lst true .nil) (.cons (.cst (.str "abcdefghijklmnopqrstuvwxyz")) .nil)))
 (.cons (.for_ (.nm 4) (.rng1 (.var 1))
 (.cons (.par (.cons (.nm 5) (.cons (.nm 6) .nil)) (.cons (.call "_law_of" (.cons (.var 0) (.cons (.lst false (.cons (.cst (.int 0)) (.cons (.cst (.int 0)) (.cons (.cst (.int 1)) (.cons (.cst (.int 3)) (.cons (.cst (.int 6)) .nil)))))) .nil)) []) (.cons (.cst (.str "")) .nil)))
 (.cons (.for_ (.nm 7) (.rng1 (.var 5))
 (.cons (.asg (.nm 6) (.bin .Add (.var 6) (.call "_law_of" (.cons (.var 0) (.cons (.var 3) .nil)) [])))
 .nil))
 (.cons (.asg (.nm 8) (.call "_law_take" (.cons (.var 0) (.cons (.bin .Add (.var 5) (.cst (.int 1))) .nil)) []))
 (.cons (.asg (.nm 6) (.bin .Add (.bin .Add (.bin .Add (.slc (.var 6) .no (.var 8)) (.sub (.var 3) (.var 4))) (.slc (.cst (.str "q")) .no (.var 5))) (.slc (.var 6) (.var 8) .no)))
 (.cons (.ex (.me .append (.var 2) (.cons (.ife (.cmp .NotIn (.var 6) (.var 2)) (.var 6) (.bin .Add (.bin .Mult (.sub (.var 3) (.var 4)) (.cst (.int 7))) (.cst (.str "q")))) .nil)))
 .nil))))))
 (.cons (.ret (.frz (.var 2)))
 .nil)))
def Urn (l : Nat) (s : Sto) : Prop := ∃ a b c : Int, s[l]? = some (.lst [.int a, .int b, .int c])
/-- all but the thing at l stays -/
def Kp (l : Nat) (s s' : Sto) : Prop := s.length ≤ s'.length ∧ ∀ m, m < s.length → m ≠ l → s'[m]? = s[m]?
theorem Kp.refl {l : Nat} {s : Sto} : Kp l s s := ⟨Nat.le_refl _, fun _ _ _ => rfl⟩
theorem Kp.trans {l : Nat} {s s' s'' : Sto} (a : Kp l s s') (b : Kp l s' s'') : Kp l s s'' := ⟨Nat.le_trans a.1 b.1, fun m h n => (b.2 m (Nat.lt_of_lt_of_le h a.1) n).trans (a.2 m h n)⟩
theorem Kp.set {l : Nat} {s : Sto} {c : Cel} : Kp l s (s.set l c) := ⟨by rw [List.length_set]; exact Nat.le_refl _, fun m _ n => List.getElem?_set_ne (Ne.symm n)⟩
theorem Kp.app {l : Nat} {s g : Sto} : Kp l s (s ++ g) := ⟨by rw [List.length_append]; exact Nat.le_add_right _ _, fun m h _ => List.getElem?_append_left h⟩
theorem Kp.get {l m : Nat} {s s' : Sto} {c : Cel} (k : Kp l s s') (h : s[m]? = some c) (n : m ≠ l) : s'[m]? = some c := by rw [k.2 m (lt_of h) n]; exact h
theorem Urn.app {l : Nat} {s g : Sto} (h : Urn l s) : Urn l (s ++ g) := by
  obtain ⟨a, b, c, e⟩ := h
  exact ⟨a, b, c, by rw [List.getElem?_append_left (lt_of e)]; exact e⟩
theorem Urn.lt {l : Nat} {s : Sto} (h : Urn l s) : l < s.length := by
  obtain ⟨a, b, c, e⟩ := h
  exact lt_of e
variable {p : Prog} {k : Nat}
theorem take_ok (h : p.fns ("_law_take" : Str) = some ⟨4, 2, i_take⟩) {s : Sto} {l : Nat} {m : Int} (hu : Urn l s) (h1 : 0 < m) (h2 : m < 1073741824) :
    Ev ((tbl p (k + 1)).fn ("_law_take" : Str) [.o l, .d (.int m)] s) fun v s' => (∃ r : Int, v = .d (.int r) ∧ 0 ≤ r ∧ r < m) ∧ Urn l s' ∧ Kp l s s' := by
  obtain ⟨a, b, c, hl⟩ := hu
  have hlt := lt_of hl
  rw [call_fn h rfl]
  unfold i_take
  have hg := fun c => get_set (c := c) hlt
  have hm : ∀ x : Int, small64 (x % 2147483629 % 5003 + 30011) = true := fun x => small_of (by omega)
  walk_at "fx"
  have fin : ∀ (x : Int) (c : Cel), (∃ a b c' : Int, c = .lst [.int a, .int b, .int c']) → (∃ r : Int, Val.d (PyData.int (x % m)) = .d (.int r) ∧ 0 ≤ r ∧ r < m) ∧ Urn l (s.set l c) ∧ Kp l s (s.set l c) := fun x c ⟨a, b, c', e⟩ =>
    ⟨⟨_, rfl, Int.emod_nonneg _ (by omega), Int.emod_lt_of_pos _ h1⟩, ⟨a, b, c', by rw [hg, e]⟩, Kp.set⟩
  by_cases ha : 0 < a
  · rw [if_pos (decide_eq_true ha)]
    exact fin _ _ ⟨_, _, _, rfl⟩
  · rw [if_neg (by simpa using ha)]
    exact fin _ _ ⟨_, _, _, rfl⟩
theorem of_list (ht : p.fns ("_law_take" : Str) = some ⟨4, 2, i_take⟩) (h : p.fns ("_law_of" : Str) = some ⟨2, 2, i_of⟩) {s : Sto} {l : Nat} {xs : List PyData} (hu : Urn l s) (h1 : 0 < xs.length) (h2 : xs.length < 1000) :
    Ev ((tbl p (k + 2)).fn ("_law_of" : Str) [.o l, .d (.list xs)] s) fun v s' => (∃ y, v = .d y ∧ y ∈ xs) ∧ Urn l s' ∧ Kp l s s' := by
  rw [call_fn h rfl]
  unfold i_of
  walk_at "fx"
  refine (take_ok ht hu (by omega) (by omega)).imp fun v s' ⟨⟨r, e, r1, r2⟩, u, kp⟩ => ?_
  subst e
  walk_at "fx"
  rw [atI_of r1]
  have hr : r.toNat < xs.length := by omega
  rw [List.getElem?_eq_getElem hr]
  walk_at "fx"
  exact ⟨_, rfl, List.getElem_mem _⟩
theorem of_str (ht : p.fns ("_law_take" : Str) = some ⟨4, 2, i_take⟩) (h : p.fns ("_law_of" : Str) = some ⟨2, 2, i_of⟩) {s : Sto} {l : Nat} {z : Str} (hu : Urn l s) (h1 : 0 < z.length) (h2 : z.length < 1000) :
    Ev ((tbl p (k + 2)).fn ("_law_of" : Str) [.o l, .d (.str z)] s) fun v s' => (∃ y, v = .d (.str ⟨#[y]⟩) ∧ y ∈ z.cps.toList) ∧ Urn l s' ∧ Kp l s s' := by
  rw [call_fn h rfl]
  unfold i_of
  walk_at "fx"
  refine (take_ok ht hu (by omega) (by omega)).imp fun v s' ⟨⟨r, e, r1, r2⟩, u, kp⟩ => ?_
  subst e
  walk_at "fx"
  rw [atI_of r1]
  have hr : r.toNat < z.cps.toList.length := by
    have e : z.cps.toList.length = z.length := by rw [Array.length_toList]; rfl
    omega
  rw [List.getElem?_eq_getElem hr]
  walk_at "fx"
  exact ⟨_, rfl, List.getElem_mem _⟩
end Fx

set_option Elab.async false
set_option linter.all false
set_option maxRecDepth 100000
set_option maxHeartbeats 4000000
/-! Fy5: names that the laws draw. -/
namespace Fx
open PySem
local macro_rules | `(tactic| walk_at "fx") => `(tactic| simp only [fxS, fxE, fxV, fxW, fxM, fxI, Ev_bind, at0, at1, at2, at3, atI_nat, List.map_cons, List.map_nil, List.length_cons, List.length_nil, List.length_set, List.set_set, List.replicate_succ, List.replicate_zero, List.cons_append, List.nil_append, List.getElem?_cons_zero, List.getElem?_cons_succ, List.set_cons_zero, List.set_cons_succ, Bool.false_eq_true, if_false, if_true, Bool.and_self, Bool.or_true, Bool.true_or, decide_true, decide_false, Nat.reduceAdd, Nat.reduceSub, Int.reduceLT, Int.reduceLE, Nat.reduceLT, Nat.reduceLeDiff, reduceCtorEq, List.getElem?_nil, and_true, true_and, *])
/-! ### texts as rows of signs -/
abbrev cs (z : Str) : List Nat := z.cps.toList
theorem cs_ext {x y : Str} (h : cs x = cs y) : x = y := by
  obtain ⟨⟨a⟩⟩ := x
  obtain ⟨⟨b⟩⟩ := y
  have : a = b := h
  rw [this]
theorem cs_app (x y : Str) : cs (x ++ y) = cs x ++ cs y := Array.toList_append
theorem cs_one (c : Nat) : cs (⟨#[c]⟩ : Str) = [c] := rfl
theorem cs_mk (l : List Nat) : cs (⟨l.toArray⟩ : Str) = l := rfl
theorem len_cs (z : Str) : z.length = (cs z).length := by
  show z.cps.size = _
  rw [Array.length_toList]
theorem cs_takeS (z : Str) {i : Int} (h : 0 ≤ i) : cs (L2.cutS z none (some i)) = (cs z).take i.toNat := by
  unfold L2.cutS
  rw [cs_mk]
  have e1 : HT.sIx z.length 0 none = 0 := rfl
  have e2 : HT.sIx z.length z.length (some i) = min i.toNat z.length := by
    show (if i < 0 then _ else _) = _
    rw [if_neg (by omega)]
  rw [e1, e2, len_cs, List.drop_zero, Nat.sub_zero]
  rcases Nat.le_total i.toNat (cs z).length with h1 | h1
  · rw [Nat.min_eq_left h1]
  · rw [Nat.min_eq_right h1, List.take_length, List.take_of_length_le h1]
theorem cs_dropS (z : Str) {i : Int} (h : 0 ≤ i) : cs (L2.cutS z (some i) none) = (cs z).drop i.toNat := by
  unfold L2.cutS
  rw [cs_mk]
  have e1 : HT.sIx z.length z.length none = z.length := rfl
  have e2 : HT.sIx z.length 0 (some i) = min i.toNat z.length := by
    show (if i < 0 then _ else _) = _
    rw [if_neg (by omega)]
  rw [e1, e2, len_cs]
  rcases Nat.le_total i.toNat (cs z).length with h1 | h1
  · rw [Nat.min_eq_left h1, List.take_of_length_le (by rw [List.length_drop]; exact Nat.le_refl _)]
  · rw [Nat.min_eq_right h1, List.drop_of_length_le h1, List.drop_of_length_le (Nat.le_refl _)]
    simp
/-! ### names -/
def abc : Str := "abcdefghijklmnopqrstuvwxyz"
theorem abc_cs : cs abc = (List.range 26).map (· + 97) := by decide +kernel
theorem abc_len : abc.length = 26 := by decide +kernel
theorem abc_mem {c : Nat} (h : c ∈ cs abc) : 97 ≤ c ∧ c ≤ 122 := by
  rw [abc_cs, List.mem_map] at h
  obtain ⟨i, hi, rfl⟩ := h
  rw [List.mem_range] at hi
  omega
theorem abc_at {i : Nat} (h : i < 26) : (cs abc)[i]? = some (i + 97) := by
  rw [abc_cs, List.getElem?_map, List.getElem?_range h]
  rfl
structure NameOk (z : Str) : Prop where
  pos : 1 ≤ (cs z).length
  le : (cs z).length ≤ 8
  low : ∀ c ∈ cs z, 97 ≤ c ∧ c ≤ 122
  odd : (cs z).length = 1 ∨ 113 ∈ cs z
/-- the name that is taken where the drawn one is there -/
def repN (i : Nat) : Str := ⟨(List.replicate 7 (i + 97) ++ [113]).toArray⟩
theorem repN_cs (i : Nat) : cs (repN i) = List.replicate 7 (i + 97) ++ [113] := rfl
structure Names (ns : List Str) : Prop where
  ok : ∀ z ∈ ns, NameOk z
  nd : ns.Nodup
  no : ∀ (j : Nat) (z : Str), ns[j]? = some z → ∀ i, j < i → i < 26 → z ≠ repN i
theorem repN_ok {i : Nat} (h : i < 26) : NameOk (repN i) where
  pos := by rw [repN_cs]; simp
  le := by rw [repN_cs]; simp
  low := fun c hc => by
    rw [repN_cs, List.mem_append, List.mem_singleton] at hc
    rcases hc with hc | hc
    · have := List.eq_of_mem_replicate hc
      omega
    · omega
  odd := .inr (by rw [repN_cs]; simp)
theorem repN_inj {i j : Nat} (h : repN i = repN j) : i = j := by
  have e := congrArg (fun z => (cs z)[0]?) h
  have e : some (i + 97) = some (j + 97) := e
  have := Option.some.inj e
  omega
/-- a drawn name -/
theorem drawn_ok {u v w : List Nat} {i : Nat} {z : Str} (hi : i < 26) (e : cs z = u ++ [i + 97] ++ w ++ v) (hl : u.length + v.length ≤ 6) (hw : (w = [] ∧ u.length + v.length = 0) ∨ w = [113]) (low : ∀ c ∈ u ++ v, 97 ≤ c ∧ c ≤ 122) : NameOk z where
  pos := by rw [e]; simp only [List.length_append, List.length_singleton]; omega
  le := by
    rw [e]
    simp only [List.length_append, List.length_singleton]
    rcases hw with ⟨h, _⟩ | h
    · rw [h, List.length_nil]; omega
    · rw [h, List.length_singleton]; omega
  low := fun c hc => by
    rw [e] at hc
    simp only [List.mem_append, List.mem_singleton] at hc
    rcases hc with ((hc | hc) | hc) | hc
    · exact low c (List.mem_append_left _ hc)
    · omega
    · rcases hw with ⟨h, _⟩ | h
      · rw [h] at hc; cases hc
      · rw [h, List.mem_singleton] at hc; omega
    · exact low c (List.mem_append_right _ hc)
  odd := by
    rw [e]
    rcases hw with ⟨h, h0⟩ | h
    · left
      rw [h]
      simp only [List.length_append, List.length_singleton, List.length_nil]
      omega
    · right
      rw [h]
      simp
theorem count_rep {n c : Nat} : (List.replicate n c ++ [113]).count 113 = if c = 113 then n + 1 else 1 := by
  rw [List.count_append, List.count_replicate]
  by_cases h : c = 113
  · subst h; simp
  · simp [h]
theorem drawn_no {u v w : List Nat} {j i : Nat} {z : Str} (hi : i < 26) (hj : j < i) (e : cs z = u ++ [j + 97] ++ w ++ v) (hl : u.length + v.length ≤ 6) (hw : (w = [] ∧ u.length + v.length = 0) ∨ w = [113]) : z ≠ repN i := fun h => by
  have e2 : u ++ [j + 97] ++ w ++ v = List.replicate 7 (i + 97) ++ [113] := by rw [← e, h, repN_cs]
  rcases hw with ⟨hw, h0⟩ | hw
  · have := congrArg List.length e2
    rw [hw] at this
    simp only [List.length_append, List.length_singleton, List.length_nil, List.length_replicate] at this
    omega
  · have hm : j + 97 ∈ List.replicate 7 (i + 97) ++ [113] := by rw [← e2]; simp
    rw [List.mem_append, List.mem_singleton] at hm
    rcases hm with hm | hm
    · have := List.eq_of_mem_replicate hm
      omega
    · have hc := congrArg (List.count 113) e2
      rw [count_rep, if_neg (by omega), hw, hm] at hc
      simp only [List.count_append, List.count_singleton_self] at hc
      omega
theorem names_snoc {ns : List Str} {z : Str} (N : Names ns) (hz : NameOk z) (hn : z ∉ ns) (hno : ∀ i, ns.length < i → i < 26 → z ≠ repN i) : Names (ns ++ [z]) where
  ok := fun y hy => by
    rw [List.mem_append, List.mem_singleton] at hy
    rcases hy with hy | hy
    · exact N.ok y hy
    · rw [hy]; exact hz
  nd := by
    rw [List.nodup_append]
    exact ⟨N.nd, by simp, fun a ha b hb => by rw [List.mem_singleton] at hb; subst hb; intro e; subst e; exact hn ha⟩
  no := fun j y hy i hj hi => by
    rw [List.getElem?_append] at hy
    split at hy
    · exact N.no j y hy i hj hi
    · rename_i hlt
      have : j = ns.length := by
        have := (List.getElem?_eq_some_iff.mp hy).1
        simp at this
        omega
      subst this
      simp at hy
      subst hy
      exact hno i hj hi
theorem names_nil : Names [] := { ok := fun _ h => (nomatch h), nd := List.nodup_nil, no := fun j z h => (nomatch h) }
theorem any_str (ns : List Str) (z : Str) : ((ns.map PyData.str).any fun y => PyData.eqv y (.str z)) = decide (z ∈ ns) := by
  induction ns with
  | nil => rfl
  | cons y r ih =>
    rw [List.map_cons, List.any_cons, ih]
    have e : PyData.eqv (.str y) (.str z) = decide (y = z) := by
      simp only [PyData.eqv]
      by_cases h : y = z
      · subst h; simp
      · simp [h]
    rw [e, Bool.eq_iff_iff]
    simp only [Bool.or_eq_true, decide_eq_true_eq, List.mem_cons]
    exact ⟨fun h => h.imp Eq.symm id, fun h => h.imp Eq.symm id⟩
end Fx

set_option Elab.async false
set_option linter.all false
set_option maxRecDepth 100000
set_option maxHeartbeats 4000000
/-! Fy6: drawing names. -/
namespace Fx
open PySem
local macro_rules | `(tactic| walk_at "fx") => `(tactic| simp only [fxS, fxE, fxV, fxW, fxM, fxI, Ev_bind, at0, at1, at2, at3, atI_nat, List.map_cons, List.map_nil, List.length_cons, List.length_nil, List.length_set, List.set_set, List.replicate_succ, List.replicate_zero, List.cons_append, List.nil_append, List.getElem?_cons_zero, List.getElem?_cons_succ, List.set_cons_zero, List.set_cons_succ, Bool.false_eq_true, if_false, if_true, Bool.and_self, Bool.or_true, Bool.true_or, decide_true, decide_false, Nat.reduceAdd, Nat.reduceSub, Int.reduceLT, Int.reduceLE, Nat.reduceLT, Nat.reduceLeDiff, reduceCtorEq, List.getElem?_nil, and_true, true_and, Nat.zero_le, Int.toNat_natCast, *])
theorem Ev.go {α : Type} {o : Out α} {Q Q' : α → Sto → Prop} (h : Ev o Q) (k : ∀ a s, Q a s → Q' a s) : Ev o Q' := Ev.imp h k
theorem rngL_get {lo : Int} {n i : Nat} {x : PyData} (h : (rngL lo n 1)[i]? = some x) : x = .int (lo + i) ∧ i < n := by
  unfold rngL at h
  rw [List.getElem?_map] at h
  cases hr : (List.range n)[i]? with
  | none => rw [hr] at h; cases h
  | some j =>
    rw [hr] at h
    obtain ⟨h1, h2⟩ := List.getElem?_eq_some_iff.mp hr
    rw [List.length_range] at h1
    rw [List.getElem_range] at h2
    subst h2
    have := Option.some.inj h
    refine ⟨?_, h1⟩
    rw [← this]
    show PyData.int (lo + (i : Int) * 1) = _
    rw [Int.mul_one]
theorem rngL_len {lo : Int} {n : Nat} {c : Int} : (rngL lo n c).length = n := by
  unfold rngL
  rw [List.length_map, List.length_range]
theorem bnd_of {i : Int} (h : 0 ≤ i) (h2 : i ≤ 1000000) : bnd62 i = true := by
  unfold bnd62
  rw [decide_eq_true (by omega), decide_eq_true (by omega)]
  rfl
theorem Kp.setN {l m : Nat} {s s' : Sto} {c : Cel} (k : Kp l s s') (h : s.length ≤ m) : Kp l s (s'.set m c) := ⟨by rw [List.length_set]; exact k.1, fun j hj n => by rw [List.getElem?_set_ne (by omega)]; exact k.2 j hj n⟩
theorem Kp.appN {l : Nat} {s s' g : Sto} (k : Kp l s s') : Kp l s (s' ++ g) := k.trans .app
theorem Urn.set {l m : Nat} {s : Sto} {c : Cel} (h : Urn l s) (n : m ≠ l) : Urn l (s.set m c) := by
  obtain ⟨a, b, c', e⟩ := h
  exact ⟨a, b, c', by rw [List.getElem?_set_ne n]; exact e⟩
theorem cs_q (σ : Nat) : cs (L2.cutS (Str.ofString "q") none (some (σ : Int))) = if σ = 0 then [] else [113] := by
  rw [cs_takeS _ (by omega)]
  have e : cs (Str.ofString "q") = [113] := by decide +kernel
  rw [e]
  cases σ with
  | zero => rfl
  | succ n =>
    rw [if_neg (by omega), Int.toNat_natCast, List.take_of_length_le (by simp)]
theorem small_str : ∀ {a : Str} {n : Nat}, (cs a).length = n → n ≤ 1000 → ∀ {b : Str} {m : Nat}, (cs b).length = m → m ≤ 1000 → a.length + b.length ≤ sizeLine := fun {a n} h1 h2 {b m} h3 h4 => by
  rw [len_cs, len_cs, h1, h3]
  unfold sizeLine
  omega
variable {p : Prog} {k : Nat}
theorem names_ok (ht : p.fns ("_law_take" : Str) = some ⟨4, 2, i_take⟩) (ho : p.fns ("_law_of" : Str) = some ⟨2, 2, i_of⟩) (h : p.fns ("_law_names" : Str) = some ⟨9, 2, i_names⟩) {s : Sto} {l : Nat} {m : Nat} (hu : Urn l s) (h1 : m ≤ 20) :
    Ev ((tbl p (k + 3)).fn ("_law_names" : Str) [.o l, .d (.int m)] s) fun v s' => (∃ ns, v = .d (.list (ns.map PyData.str)) ∧ ns.length = m ∧ Names ns) ∧ Urn l s' ∧ Kp l s s' := by
  rw [call_fn h rfl]
  unfold i_names
  have hb := bnd_of (i := (m : Int)) (by omega) (by omega)
  have hs : ((m : Int) ≤ sizeLine) = True := by unfold sizeLine; simp; omega
  have hlt := hu.lt
  have ha : (Str.ofString "abcdefghijklmnopqrstuvwxyz") = abc := rfl
  walk_at "fx"
  refine for_inv (fun i ε s' => ∃ ns e4 e5 e6 e7 e8, ε = [some (.v (.o l)), some (.v (.d (.int m))), some (.v (.o s.length)), some (.v (.d (.str abc))), e4, e5, e6, e7, e8] ∧ ns.length = i ∧ Names ns ∧ s'[s.length]? = some (.lst (ns.map .str)) ∧ Urn l s' ∧ Kp l s s') ?_ ?_ ?_
  · rintro i x ε s1 hx ⟨ns, e4, e5, e6, e7, e8, rfl, hn, hN, hc, hu1, hk1⟩
    obtain ⟨rfl, him⟩ := rngL_get hx
    have hi20 : i < 20 := by omega
    rw [Int.zero_add]
    walk_at "fx"
    refine (of_list ht ho hu1 (by simp) (by simp)).go fun v s2 ⟨⟨y, e, hy⟩, hu2, hk2⟩ => ?_
    subst e
    have hy : ∃ σ : Nat, σ ≤ 6 ∧ y = .int (σ : Int) := by
      simp only [List.mem_cons, List.mem_nil_iff, or_false] at hy
      rcases hy with h | h | h | h | h
      · exact ⟨0, by omega, h⟩
      · exact ⟨0, by omega, h⟩
      · exact ⟨1, by omega, h⟩
      · exact ⟨3, by omega, h⟩
      · exact ⟨6, by omega, h⟩
    obtain ⟨σ, hσ, rfl⟩ := hy
    have hb2 := bnd_of (i := (σ : Int)) (by omega) (by omega)
    have hs2 : ((σ : Int) ≤ sizeLine) = True := by unfold sizeLine; simp; omega
    walk_at "fx"
    refine for_inv (fun j ε s' => ∃ z e7, ε = [some (.v (.o l)), some (.v (.d (.int m))), some (.v (.o s.length)), some (.v (.d (.str abc))), some (.v (.d (.int i))), some (.v (.d (.int σ))), some (.v (.d (.str z))), e7, e8] ∧ (cs z).length = j ∧ (∀ c ∈ cs z, 97 ≤ c ∧ c ≤ 122) ∧ Urn l s' ∧ Kp l s1 s') ?_ ?_ ?_
    · clear hy
      rintro j x ε s3 hx3 ⟨z, e7, rfl, hz, hlow, hu3, hk3⟩
      obtain ⟨rfl, hj⟩ := rngL_get hx3
      rw [Int.zero_add]
      walk_at "fx"
      refine (of_str ht ho hu3 (by rw [abc_len]; omega) (by rw [abc_len]; omega)).go fun v s4 ⟨⟨y, e, hy⟩, hu4, hk4⟩ => ?_
      subst e
      have hl3 : z.length + (⟨#[y]⟩ : Str).length ≤ sizeLine := by
        rw [len_cs, len_cs, cs_one, hz]
        unfold sizeLine
        simp
        omega
      have hfin : (cs (z ++ (⟨#[y]⟩ : Str))).length = j + 1 ∧ (∀ c ∈ cs (z ++ (⟨#[y]⟩ : Str)), 97 ≤ c ∧ c ≤ 122) := by
        rw [cs_app, cs_one]
        refine ⟨by simp [hz], fun c hc => ?_⟩
        rw [List.mem_append, List.mem_singleton] at hc
        rcases hc with hc | hc
        · exact hlow c hc
        · subst hc; exact abc_mem hy
      walk_at "fx"
      exact ⟨_, _, rfl, hfin.1, hfin.2, hk3.trans hk4⟩
    · clear hy
      rintro ε s3 ⟨z, e7, rfl, hz, hlow, hu3, hk3⟩
      rw [rngL_len] at hz
      have hσ0 : (0 : Int) < (σ : Int) + 1 := by omega
      walk_at "fx"
      refine (take_ok ht hu3 hσ0 (by omega)).go fun v s4 ⟨⟨r, e, r1, r2⟩, hu4, hk4⟩ => ?_
      subst e
      have hat : abc.cps.toList[i]? = some (i + 97) := abc_at (by omega)
      walk_at "fx"
      have c1 := cs_takeS z r1
      have c2 := cs_dropS z r1
      have c3 := cs_q σ
      have l1 : (cs (L2.cutS z none (some r))).length + (cs (L2.cutS z (some r) none)).length = σ := by
        rw [c1, c2, List.length_take, List.length_drop, hz]; omega
      have l3 : (cs (L2.cutS (Str.ofString "q") none (some (σ : Int)))).length ≤ 1 := by
        rw [c3]; split <;> simp
      rw [if_pos (by rw [len_cs, len_cs, cs_one, List.length_singleton]; unfold sizeLine; omega),
        if_pos (by rw [len_cs, len_cs, cs_app, cs_one, List.length_append, List.length_singleton]; unfold sizeLine; omega),
        if_pos (by rw [len_cs, len_cs, cs_app, cs_app, cs_one, List.length_append, List.length_append, List.length_singleton]; unfold sizeLine; omega)]
      have cz : cs (L2.cutS z none (some r) ++ (⟨#[i + 97]⟩ : Str) ++ L2.cutS (Str.ofString "q") none (some (σ : Int)) ++ L2.cutS z (some r) none) = (cs z).take r.toNat ++ [i + 97] ++ (if σ = 0 then [] else [113]) ++ (cs z).drop r.toNat := by
        rw [cs_app, cs_app, cs_app, cs_one, c1, c2, c3]
      have hw : ((if σ = 0 then [] else [113]) = ([] : List Nat) ∧ ((cs z).take r.toNat).length + ((cs z).drop r.toNat).length = 0) ∨ (if σ = 0 then [] else [113]) = [113] := by
        by_cases h0 : σ = 0
        · rw [if_pos h0]
          left
          refine ⟨rfl, ?_⟩
          rw [List.length_take, List.length_drop]; omega
        · rw [if_neg h0]; exact .inr rfl
      have hlen : ((cs z).take r.toNat).length + ((cs z).drop r.toNat).length ≤ 6 := by
        rw [List.length_take, List.length_drop]; omega
      generalize (L2.cutS z none (some r) ++ (⟨#[i + 97]⟩ : Str) ++ L2.cutS (Str.ofString "q") none (some (σ : Int)) ++ L2.cutS z (some r) none) = y at cz ⊢
      have hok : NameOk y := drawn_ok (by omega) cz hlen hw (fun c hc => by rw [List.take_append_drop] at hc; exact hlow c hc)
      have hno : ∀ i', i < i' → i' < 26 → y ≠ repN i' := fun i' h1 h2 => drawn_no h2 h1 cz hlen hw
      clear c1 c2 c3 l1 l3 cz hw hlen
      have h4 : s4[s.length]? = some (.lst (ns.map PyData.str)) := hk4.get (hk3.get hc (by omega)) (by omega)
      have hany := any_str ns y
      have hrep : (⟨(List.replicate (Int.toNat 7) [i + 97]).flatten.toArray⟩ : Str) ++ Str.ofString "q" = repN i := cs_ext (by rw [cs_app]; rfl)
      have hl : ((List.map PyData.str ns).length < sizeLine) = True := by unfold sizeLine; rw [List.length_map]; simp; omega
      have hd : (decide ((PyData.str y).depth ≤ 64)) = true := rfl
      have hr1 : (decide ((⟨#[i + 97]⟩ : Str).length ≤ 1000)) = true := rfl
      have hr2 : ((⟨(List.replicate (Int.toNat 7) [i + 97]).flatten.toArray⟩ : Str).length + (Str.ofString "q").length ≤ sizeLine) = True := eq_true (by rw [len_cs, cs_mk]; unfold sizeLine; exact (by decide : 8 ≤ 2 ^ 24))
      have fin : ∀ z : Str, NameOk z → z ∉ ns → (∀ i', i < i' → i' < 26 → z ≠ repN i') → ∃ ns_1 : List Str, ns_1.length = i + 1 ∧ Names ns_1 ∧ (s4.set s.length (.lst (ns.map PyData.str ++ [.str z])))[s.length]? = some (.lst (ns_1.map PyData.str)) ∧ Urn l (s4.set s.length (.lst (ns.map PyData.str ++ [.str z]))) ∧ Kp l s (s4.set s.length (.lst (ns.map PyData.str ++ [.str z]))) := fun z h1 h2 h3 =>
        ⟨ns ++ [z], by rw [List.length_append, hn, List.length_singleton], names_snoc hN h1 h2 (by rw [hn]; exact h3), by rw [get_set (lt_of h4), List.map_append]; rfl, hu4.set (by omega), ((hk1.trans hk3).trans hk4).setN (Nat.le_refl _)⟩
      by_cases hy : y ∈ ns
      · walk_at "fx"
        obtain ⟨ns', f1, f2, f3, f4, f5⟩ := fin (repN i) (repN_ok (by omega)) (fun hm => by
          obtain ⟨j, hj⟩ := List.mem_iff_getElem?.mp hm
          have := (List.getElem?_eq_some_iff.mp hj).1
          exact hN.no j _ hj i (by omega) (by omega) rfl) (fun i' h1 h2 e => by have := repN_inj e; omega)
        exact ⟨ns', _, _, _, _, _, rfl, f1, f2, f3, f4, f5⟩
      · walk_at "fx"
        obtain ⟨ns', f1, f2, f3, f4, f5⟩ := fin y hok hy hno
        exact ⟨ns', _, _, _, _, _, rfl, f1, f2, f3, f4, f5⟩
    · exact ⟨_, _, rfl, rfl, fun c hc => (nomatch hc), hu2, Kp.trans hk2 .refl⟩
  · rintro ε s1 ⟨ns, e4, e5, e6, e7, e8, rfl, hn, hN, hc, hu1, hk1⟩
    rw [rngL_len] at hn
    walk_at "fx"
    exact ⟨⟨ns, rfl, hn, hN⟩, hu1.set (by omega), hk1.setN (Nat.le_refl _)⟩
  · refine ⟨[], _, _, _, _, _, rfl, rfl, names_nil, ?_, hu.app, .app⟩
    simp
end Fx

set_option Elab.async false
set_option linter.all false
set_option maxRecDepth 100000
/-! Fy7: the texts of law k74 (printed by mkfy7.py). -/
namespace Fx
open PySem
def i_law : Ss := (.cons (.ret (.bi .all false (.cons (.comp false [1] (.cons (.nm 1) (.rng1 (.bi .max2 false (.cons (.cst (.int 1)) (.cons (.bi .min2 false (.cons (.bi .len false (.cons (.var 0) .nil)) (.cons (.cst (.int 3)) .nil))) .nil)))) .no .nil) (.call "_law_right" (.cons (.call "_law_urn" (.cons (.var 0) (.cons (.var 1) .nil)) []) .nil) [])) .nil)))
 .nil)
def i_law_right : Ss := (.cons (.for_ (.nm 1) (.rng1 (.cst (.int 4)))
 (.cons (.asg (.nm 2) (.call "_law_asks" (.cons (.var 0) (.cons (.call "_law_of" (.cons (.var 0) (.cons (.lst false (.cons (.cst (.int 1)) (.cons (.cst (.int 6)) (.cons (.cst (.int 12)) (.cons (.cst (.int 20)) .nil))))) .nil)) []) (.cons (.call "_law_of" (.cons (.var 0) (.cons (.lst false (.cons (.cst (.int 1)) (.cons (.cst (.int 5)) (.cons (.cst (.int 20)) (.cons (.cst (.int 900)) .nil))))) .nil)) []) (.cons (.call "_law_of" (.cons (.var 0) (.cons (.lst false (.cons (.cst (.int 1)) (.cons (.cst (.int 9)) .nil))) .nil)) []) .nil)))) []))
 (.cons (.asg (.nm 3) (.bin .Add (.cst (.int 1)) (.call "_law_take" (.cons (.var 0) (.cons (.cst (.int 4)) .nil)) [])))
 (.cons (.asg (.nm 4) (.call "_law_first" (.cons (.var 2) (.cons (.var 3) .nil)) []))
 (.cons (.ifs (.rep true (.lst false (.cons (.call "first_filling" (.cons (.var 2) (.cons (.var 3) .nil)) []) (.cons (.call "first_filling" (.cons (.var 3) (.cons (.var 2) .nil)) [1, 0]) .nil))) (.lst false (.cons (.var 4) (.cons (.var 4) .nil))))
 (.cons (.ret (.cst (.bool false)))
 .nil)
 .nil)
 (.cons (.asg (.nm 5) (.comp false [10] (.cons (.nm 10) (.rng1 (.bi .len false (.cons (.var 2) .nil))) .no .nil) (.bin .Sub (.sub (.var 4) (.var 10)) (.sub (.sub (.var 2) (.var 10)) (.cst (.int 1))))))
 (.cons (.asg (.nm 6) (.lst false (.cons (.call "used" (.cons (.var 2) (.cons (.var 3) .nil)) []) (.cons (.call "lateness" (.cons (.var 2) (.cons (.var 3) .nil)) []) (.cons (.call "greatest_late" (.cons (.var 2) (.cons (.var 3) .nil)) []) (.cons (.call "is_filling" (.cons (.var 2) (.cons (.var 3) (.cons (.var 4) .nil))) []) .nil))))))
 (.cons (.asg (.nm 7) (.lst true (.cons (.call "used" (.cons (.var 3) (.cons (.var 2) .nil)) [1, 0]) (.cons (.call "lateness" (.cons (.var 3) (.cons (.var 2) .nil)) [1, 0]) (.cons (.call "greatest_late" (.cons (.var 3) (.cons (.var 2) .nil)) [1, 0]) .nil)))))
 (.cons (.ex (.me .append (.var 7) (.cons (.call "is_filling" (.cons (.var 4) (.cons (.var 3) (.cons (.var 2) .nil))) [2, 1, 0]) .nil)))
 (.cons (.asg (.nm 8) (.lst false (.cons (.bi .tuple false (.cons (.bi .sorted false (.cons (.var 4) .nil)) .nil)) (.cons (.bi .sum false (.cons (.var 5) .nil)) (.cons (.bi .max false (.cons (.var 5) .nil)) (.cons (.cst (.bool true)) .nil))))))
 (.cons (.ifs (.rep true (.lst false (.cons (.var 6) (.cons (.frz (.var 7)) .nil))) (.lst false (.cons (.var 8) (.cons (.var 8) .nil))))
 (.cons (.ret (.cst (.bool false)))
 .nil)
 .nil)
 (.cons (.asg (.nm 9) (.call "_law_on_time" (.cons (.var 2) (.cons (.var 4) .nil)) []))
 (.cons (.ifs (.rep true (.lst false (.cons (.call "most_on_time" (.cons (.var 2) (.cons (.var 3) .nil)) []) (.cons (.call "most_on_time" (.cons (.var 3) (.cons (.var 2) .nil)) [1, 0]) .nil))) (.lst false (.cons (.var 9) (.cons (.var 9) .nil))))
 (.cons (.ret (.cst (.bool false)))
 .nil)
 .nil)
 .nil)))))))))))))
 (.cons (.ret (.cst (.bool true)))
 .nil))
def i_law_urn : Ss := (.cons (.asg (.nm 2) (.bin .Add (.cst (.int 744067)) (.bin .Mult (.cst (.int 8111)) (.var 1))))
 (.cons (.for_ (.nm 3) (.of (.slc (.var 0) .no (.cst (.int 9))))
 (.cons (.asg (.nm 2) (.bin .Mod (.bi .int false (.cons (.bin .Add (.bin .Add (.bin .Mult (.var 2) (.cst (.int 50021))) (.bin .Mult (.bin .Mod (.bi .int false (.cons (.var 3) .nil)) (.cst (.int 2147483477))) (.cst (.int 13)))) (.cst (.int 41))) .nil)) (.cst (.int 2147483629))))
 .nil))
 (.cons (.asg (.nm 4) (.ife (.cmp .Lt (.var 1) (.bi .len false (.cons (.var 0) .nil))) (.bi .int false (.cons (.sub (.var 0) (.var 1)) .nil)) (.cst (.int 0))))
 (.cons (.asg (.nm 2) (.bin .Mod (.bi .int false (.cons (.bin .Add (.bin .Add (.bin .Mult (.var 2) (.cst (.int 59))) (.bin .Mult (.bin .Mod (.bi .int false (.cons (.var 4) .nil)) (.cst (.int 2147483477))) (.cst (.int 30029)))) (.cst (.int 5))) .nil)) (.cst (.int 2147483629))))
 (.cons (.ret (.lst true (.cons (.ife (.orv (.cmp .Lt (.var 4) (.cst (.int 0))) (.cmp .GtE (.var 4) (.bin .Pow (.cst (.int 10)) (.cst (.int 15))))) (.bi .abs false (.cons (.var 4) .nil)) (.cst (.int 0))) (.cons (.var 2) (.cons (.cst (.int 0)) .nil)))))
 .nil)))))
def i_law_asks : Ss := (.cons (.asg (.nm 4) (.tup .nil))
 (.cons (.for_ (.nm 5) (.of (.call "_law_names" (.cons (.var 0) (.cons (.var 1) .nil)) []))
 (.cons (.asg (.nm 6) (.call "_law_take" (.cons (.var 0) (.cons (.bin .Add (.var 2) (.cst (.int 1))) .nil)) []))
 (.cons (.asg (.nm 4) (.bin .Add (.var 4) (.tup (.cons (.tup (.cons (.var 5) (.cons (.var 6) (.cons (.bin .Add (.var 6) (.call "_law_of" (.cons (.var 0) (.cons (.lst false (.cons (.cst (.int 0)) (.cons (.cst (.int 0)) (.cons (.var 3) (.cons (.call "_law_take" (.cons (.var 0) (.cons (.bin .Add (.var 3) (.cst (.int 1))) .nil)) []) .nil))))) .nil)) [])) .nil)))) .nil))))
 .nil)))
 (.cons (.ret (.var 4))
 .nil)))
def i_law_first : Ss := (.cons (.par (.cons (.nm 2) (.cons (.nm 3) .nil)) (.cons (.mulO (.lst false (.cons (.cst (.int 0)) .nil)) (.bi .len false (.cons (.var 0) .nil))) (.cons (.dnew false) .nil)))
 (.cons (.for_ (.tp (.cons (.nm 4) (.cons (.nm 5) .nil))) (.of (.bi .sorted false (.cons (.comp false [5] (.cons (.nm 5) (.rng1 (.bi .len false (.cons (.var 0) .nil))) .no .nil) (.tup (.cons (.sub (.sub (.var 0) (.var 5)) (.cst (.int 1))) (.cons (.var 5) .nil)))) .nil)))
 (.cons (.asg (.nm 6) (.var 4))
 (.cons (.for_ (.nm 7) (.rng1 (.bi .len false (.cons (.var 0) .nil)))
 (.cons (.asg (.nm 6) (.bin .Add (.var 6) (.bi .int false (.cons (.cmp .GtE (.me .get (.var 3) (.cons (.var 6) (.cons (.cst (.int 0)) .nil))) (.var 1)) .nil))))
 .nil))
 (.cons (.asg (.sb (.var 2) (.var 5)) (.var 6))
 (.cons (.asg (.ds (.var 3) (.var 6)) (.bin .Add (.me .get (.var 3) (.cons (.var 6) (.cons (.cst (.int 0)) .nil))) (.cst (.int 1))))
 .nil)))))
 (.cons (.ret (.bi .tuple false (.cons (.var 2) .nil)))
 .nil)))
def i_first_filling : Ss := (.cons (.ex (.call "check_asked" (.cons (.var 0) (.cons (.var 1) .nil)) []))
 (.cons (.ret (.bi .tuple false (.cons (.call "filled" (.cons (.var 0) (.cons (.var 1) .nil)) []) .nil)))
 .nil))
def i_used : Ss := (.cons (.ex (.call "check_asked" (.cons (.var 0) (.cons (.var 1) .nil)) []))
 (.cons (.ret (.bi .tuple false (.cons (.bi .sorted false (.cons (.call "filled" (.cons (.var 0) (.cons (.var 1) .nil)) []) .nil)) .nil)))
 .nil))
def i_lateness : Ss := (.cons (.ex (.call "check_asked" (.cons (.var 0) (.cons (.var 1) .nil)) []))
 (.cons (.ret (.bi .sum false (.cons (.call "lates_of" (.cons (.var 0) (.cons (.call "filled" (.cons (.var 0) (.cons (.var 1) .nil)) []) .nil)) []) .nil)))
 .nil))
def i_greatest_late : Ss := (.cons (.ex (.call "check_asked" (.cons (.var 0) (.cons (.var 1) .nil)) []))
 (.cons (.ret (.bi .max false (.cons (.call "lates_of" (.cons (.var 0) (.cons (.call "filled" (.cons (.var 0) (.cons (.var 1) .nil)) []) .nil)) []) .nil)))
 .nil))
def i_is_filling : Ss := (.cons (.ex (.call "check_asked" (.cons (.var 0) (.cons (.var 1) .nil)) []))
 (.cons (.ret (.andv (.call "are_slots_for" (.cons (.var 0) (.cons (.var 2) .nil)) []) (.call "is_filled" (.cons (.var 0) (.cons (.var 1) (.cons (.var 2) .nil))) [])))
 .nil))
def i_law_on_time : Ss := (.cons (.asg (.nm 2) (.cst (.int 0)))
 (.cons (.for_ (.nm 3) (.of (.bi .sortedSet false (.cons (.var 1) .nil)))
 (.cons (.asg (.nm 4) (.bi .len false (.cons (.comp false [5] (.cons (.nm 5) (.of (.var 1)) (.cmp .Eq (.var 5) (.var 3)) .nil) (.var 5)) .nil)))
 (.cons (.asg (.nm 2) (.bin .Add (.var 2) (.bi .min2 false (.cons (.var 4) (.cons (.bi .len false (.cons (.comp false [6] (.cons (.nm 6) (.of (.var 0)) (.cmp .Eq (.sub (.var 6) (.cst (.int 1))) (.var 3)) .nil) (.var 6)) .nil)) .nil)))))
 .nil)))
 (.cons (.ret (.var 2))
 .nil)))
def i_most_on_time : Ss := (.cons (.ex (.call "check_asked" (.cons (.var 0) (.cons (.var 1) .nil)) []))
 (.cons (.asg (.nm 2) (.comp false [3, 4] (.cons (.tp (.cons (.nm 3) (.cons (.nm 4) (.cons (.nm 3) .nil)))) (.of (.var 0)) .no .nil) (.var 4)))
 (.cons (.ret (.bi .sum false (.cons (.comp false [4] (.cons (.nm 4) (.of (.bi .sortedSet false (.cons (.var 2) .nil))) .no .nil) (.bi .min2 false (.cons (.var 1) (.cons (.me .count (.var 2) (.cons (.var 4) .nil)) .nil)))) .nil)))
 .nil)))
def i_check_asked : Ss := (.cons (.ex (.call "check_asks" (.cons (.var 0) .nil) []))
 (.cons (.ex (.call "check_number" (.cons (.var 1) (.cons (.cst (.int 1)) (.cons (.glob "MOST_RUNWAYS") .nil))) []))
 .nil))
def i_filled : Ss := (.cons (.par (.cons (.nm 2) (.cons (.nm 3) .nil)) (.cons (.dnew false) (.cons (.dnew false) .nil)))
 (.cons (.for_ (.nm 4) (.of (.sortR false (.bi .len false (.cons (.var 0) .nil)) (.clo 0 [0])))
 (.cons (.asg (.ds (.var 2) (.var 4)) (.call "first_free" (.cons (.var 3) (.cons (.var 1) (.cons (.sub (.sub (.var 0) (.var 4)) (.cst (.int 1))) .nil))) []))
 (.cons (.asg (.ds (.var 3) (.dsub (.var 2) (.var 4))) (.bin .Add (.me .get (.var 3) (.cons (.dsub (.var 2) (.var 4)) (.cons (.cst (.int 0)) .nil))) (.cst (.int 1))))
 .nil)))
 (.cons (.ret (.comp false [4] (.cons (.nm 4) (.rng1 (.bi .len false (.cons (.var 0) .nil))) .no .nil) (.dsub (.var 2) (.var 4))))
 .nil)))
def i_lates_of : Ss := (.cons (.ret (.comp false [2, 3] (.cons (.tp (.cons (.nm 2) (.cons (.nm 3) .nil))) (.zip (.var 0) (.var 1)) .no .nil) (.bin .Sub (.var 3) (.sub (.var 2) (.cst (.int 1))))))
 .nil)
def i_are_slots_for : Ss := (.cons (.ifs (.notv (.call "is_tuple_of" (.cons (.var 1) (.cons (.bi .len false (.cons (.var 0) .nil)) .nil)) []))
 (.cons (.ret (.cst (.bool false)))
 .nil)
 .nil)
 (.cons (.ret (.bi .all false (.cons (.comp false [2, 3] (.cons (.tp (.cons (.nm 2) (.cons (.nm 3) .nil))) (.zip (.var 0) (.var 1)) .no .nil) (.call "is_number" (.cons (.var 3) (.cons (.sub (.var 2) (.cst (.int 1))) (.cons (.cst .none) .nil))) [])) .nil)))
 .nil))
def i_is_filled : Ss := (.cons (.asg (.nm 3) (.dcomp false [5] (.cons (.nm 5) (.of (.var 2)) .no .nil) (.var 5) (.bi .len false (.cons (.comp false [6] (.cons (.nm 6) (.of (.var 2)) (.cmp .Eq (.var 6) (.var 5)) .nil) (.var 6)) .nil))))
 (.cons (.ifs (.cmp .Gt (.bi .maxVals false (.cons (.var 3) .nil)) (.var 1))
 (.cons (.ret (.cst (.bool false)))
 .nil)
 .nil)
 (.cons (.for_ (.tp (.cons (.nm 4) (.cons (.nm 5) .nil))) (.zip (.var 0) (.var 2))
 (.cons (.ifs (.notv (.bi .all false (.cons (.comp false [7] (.cons (.nm 7) (.rng2 (.sub (.var 4) (.cst (.int 1))) (.bi .min2 false (.cons (.var 5) (.cons (.bin .Add (.bin .Add (.sub (.var 4) (.cst (.int 1))) (.bi .len false (.cons (.var 0) .nil))) (.cst (.int 1))) .nil)))) .no .nil) (.cmp .Eq (.me .get (.var 3) (.cons (.var 7) (.cons (.cst (.int 0)) .nil))) (.var 1))) .nil)))
 (.cons (.ret (.cst (.bool false)))
 .nil)
 .nil)
 .nil))
 (.cons (.ret (.cst (.bool true)))
 .nil))))
def i_check_asks : Ss := (.cons (.for_ (.nm 1) (.of (.call "wrong_asks" (.cons (.var 0) .nil) []))
 (.cons (.ex .no)
 .nil))
 .nil)
def i_check_number : Ss := (.cons (.ifs (.notv (.call "is_number" (.cons (.var 0) (.cons (.var 1) (.cons (.var 2) .nil))) []))
 (.cons (.ex .no)
 .nil)
 .nil)
 .nil)
def i_first_free : Ss := (.cons (.asg (.nm 3) (.var 2))
 (.cons (.whl 100000 (.cmp .Eq (.me .get (.var 0) (.cons (.var 3) (.cons (.cst (.int 0)) .nil))) (.var 1))
 (.cons (.aug 3 .Add (.cst (.int 1)))
 .nil))
 (.cons (.ret (.var 3))
 .nil)))
def i_is_tuple_of : Ss := (.cons (.ret (.andv (.isi (.var 0) .tuple) (.cmp .Eq (.bi .len false (.cons (.var 0) .nil)) (.var 1))))
 .nil)
def i_is_number : Ss := (.cons (.ifs (.orv (.notv (.call "is_whole" (.cons (.var 0) .nil) [])) (.andv (.cmp .IsNot (.var 1) (.cst .none)) (.cmp .Lt (.var 0) (.var 1))))
 (.cons (.ret (.cst (.bool false)))
 .nil)
 .nil)
 (.cons (.ret (.orv (.cmp .Is (.var 2) (.cst .none)) (.cmp .LtE (.var 0) (.var 2))))
 .nil))
def i_wrong_asks : Ss := (.cons (.ndef 1 1 [])
 (.cons (.ret (.call "wrong_from_one" (.cons (.var 0) (.cons (.glob "MOST_ASKS") (.cons (.var 1) .nil))) []))
 .nil))
def i_is_whole : Ss := (.cons (.ret (.andv (.isi (.var 0) .int) (.notv (.isi (.var 0) .bool))))
 .nil)
def i_is_ask : Ss := (.cons (.ifs (.orv (.notv (.call "is_tuple_of" (.cons (.var 0) (.cons (.cst (.int 3)) .nil)) [])) (.orv (.notv (.call "is_name" (.cons (.sub (.var 0) (.cst (.int 0))) .nil) [])) (.notv (.call "is_number" (.cons (.sub (.var 0) (.cst (.int 1))) (.cons (.cst (.int 0)) (.cons (.glob "MOST_SLOT") .nil))) []))))
 (.cons (.ret (.cst (.bool false)))
 .nil)
 .nil)
 (.cons (.ret (.call "is_number" (.cons (.sub (.var 0) (.cst (.int 2))) (.cons (.sub (.var 0) (.cst (.int 1))) (.cons (.glob "MOST_SLOT") .nil))) []))
 .nil))
def i_wrong_from_one : Ss := (.cons (.ret (.ife (.andv (.isi (.var 0) .tuple) (.cmp .Eq (.var 0) (.tup .nil))) (.lst false (.cons (.cst .none) .nil)) (.call "wrong_at" (.cons (.var 0) (.cons (.var 1) (.cons (.var 2) .nil))) [])))
 .nil)
def i_is_name : Ss := (.cons (.ret (.andv (.call "is_word" (.cons (.var 0) .nil) []) (.andv (.cmp .LtE (.bi .len false (.cons (.var 0) .nil)) (.glob "MOST_LETTERS")) (.ing true (.var 0) "WORDS"))))
 .nil)
def i_wrong_at : Ss := (.cons (.ifs (.notv (.isi (.var 0) .tuple))
 (.cons (.ret (.lst false (.cons (.cst .none) .nil)))
 .nil)
 .nil)
 (.cons (.for_ (.tp (.cons (.nm 3) (.cons (.nm 4) .nil))) (.enum (.var 0))
 (.cons (.ifs (.orv (.andv (.cmp .IsNot (.var 1) (.cst .none)) (.cmp .GtE (.var 3) (.var 1))) (.notv (.callv 2 (.cons (.var 4) (.cons (.slc (.var 0) .no (.var 3)) .nil)))))
 (.cons (.ret (.lst false (.cons (.var 3) .nil)))
 .nil)
 .nil)
 .nil))
 (.cons (.ret (.lst false .nil))
 .nil)))
def i_is_word : Ss := (.cons (.ret (.andv (.isi (.var 0) .str) (.andv (.cmp .NotEq (.var 0) (.cst (.str ""))) (.bi .all false (.cons (.comp false [1] (.cons (.nm 1) (.of (.var 0)) .no .nil) (.cmp .In (.var 1) (.glob "LETTERS"))) .nil)))))
 .nil)
def j_0 : Ss := (.cons (.ret (.tup (.cons (.sub (.sub (.var 1) (.var 0)) (.cst (.int 1))) (.cons (.var 0) .nil)))) .nil)
def j_1 : Ss := (.cons (.ret (.andv (.call "is_ask" (.cons (.var 0) .nil) []) (.cmp .NotIn (.sub (.var 0) (.cst (.int 0))) (.comp false [2] (.cons (.nm 2) (.of (.var 1)) .no .nil) (.sub (.var 2) (.cst (.int 0)))))))
 .nil)
def WORDS : List PyData := [.str "add", .str "ahead", .str "all", .str "at", .str "behind", .str "book", .str "by", .str "close", .str "drop", .str "end", .str "ends", .str "flight", .str "from", .str "kinds", .str "land", .str "late", .str "least", .str "move", .str "none", .str "of", .str "open", .str "row", .str "show", .str "time", .str "times", .str "to", .str "with"]
/-- a program that has these texts -/
structure P74 (p : Prog) : Prop where
  law : p.fns ("law" : Str) = some ⟨2, 1, i_law⟩
  law_right : p.fns ("_law_right" : Str) = some ⟨11, 1, i_law_right⟩
  law_urn : p.fns ("_law_urn" : Str) = some ⟨5, 2, i_law_urn⟩
  law_asks : p.fns ("_law_asks" : Str) = some ⟨7, 4, i_law_asks⟩
  law_of : p.fns ("_law_of" : Str) = some ⟨2, 2, i_of⟩
  law_take : p.fns ("_law_take" : Str) = some ⟨4, 2, i_take⟩
  law_first : p.fns ("_law_first" : Str) = some ⟨8, 2, i_law_first⟩
  first_filling : p.fns ("first_filling" : Str) = some ⟨2, 2, i_first_filling⟩
  used : p.fns ("used" : Str) = some ⟨2, 2, i_used⟩
  lateness : p.fns ("lateness" : Str) = some ⟨2, 2, i_lateness⟩
  greatest_late : p.fns ("greatest_late" : Str) = some ⟨2, 2, i_greatest_late⟩
  is_filling : p.fns ("is_filling" : Str) = some ⟨3, 3, i_is_filling⟩
  law_on_time : p.fns ("_law_on_time" : Str) = some ⟨7, 2, i_law_on_time⟩
  most_on_time : p.fns ("most_on_time" : Str) = some ⟨5, 2, i_most_on_time⟩
  law_names : p.fns ("_law_names" : Str) = some ⟨9, 2, i_names⟩
  check_asked : p.fns ("check_asked" : Str) = some ⟨2, 2, i_check_asked⟩
  filled : p.fns ("filled" : Str) = some ⟨5, 2, i_filled⟩
  lates_of : p.fns ("lates_of" : Str) = some ⟨4, 2, i_lates_of⟩
  are_slots_for : p.fns ("are_slots_for" : Str) = some ⟨4, 2, i_are_slots_for⟩
  is_filled : p.fns ("is_filled" : Str) = some ⟨8, 3, i_is_filled⟩
  check_asks : p.fns ("check_asks" : Str) = some ⟨2, 1, i_check_asks⟩
  check_number : p.fns ("check_number" : Str) = some ⟨3, 3, i_check_number⟩
  first_free : p.fns ("first_free" : Str) = some ⟨4, 3, i_first_free⟩
  is_tuple_of : p.fns ("is_tuple_of" : Str) = some ⟨2, 2, i_is_tuple_of⟩
  is_number : p.fns ("is_number" : Str) = some ⟨3, 3, i_is_number⟩
  wrong_asks : p.fns ("wrong_asks" : Str) = some ⟨2, 1, i_wrong_asks⟩
  is_whole : p.fns ("is_whole" : Str) = some ⟨1, 1, i_is_whole⟩
  is_ask : p.fns ("is_ask" : Str) = some ⟨1, 1, i_is_ask⟩
  wrong_from_one : p.fns ("wrong_from_one" : Str) = some ⟨3, 3, i_wrong_from_one⟩
  is_name : p.fns ("is_name" : Str) = some ⟨1, 1, i_is_name⟩
  wrong_at : p.fns ("wrong_at" : Str) = some ⟨5, 3, i_wrong_at⟩
  is_word : p.fns ("is_word" : Str) = some ⟨2, 1, i_is_word⟩
  cl0 : p.cls 0 = some ⟨2, 2, j_0⟩
  cl1 : p.cls 1 = some ⟨3, 2, j_1⟩
  g_MOST_LETTERS : p.gl ("MOST_LETTERS" : Str) = some (.int 8)
  g_MOST_ASKS : p.gl ("MOST_ASKS" : Str) = some (.int 20)
  g_MOST_SLOT : p.gl ("MOST_SLOT" : Str) = some (.int 999)
  g_MOST_RUNWAYS : p.gl ("MOST_RUNWAYS" : Str) = some (.int 4)
  g_LETTERS : p.gl ("LETTERS" : Str) = some (.str "abcdefghijklmnopqrstuvwxyz")
  g_WORDS : p.gt ("WORDS" : Str) = some WORDS
end Fx

set_option Elab.async false
set_option linter.all false
set_option maxRecDepth 100000
set_option maxHeartbeats 4000000
/-! Fy8: drawing asks. -/
namespace Fx
open PySem
local macro_rules | `(tactic| walk_at "fx") => `(tactic| simp only [fxS, fxE, fxV, fxW, fxM, fxI, Ev_bind, at0, at1, at2, at3, atI_nat, List.map_cons, List.map_nil, List.length_cons, List.length_nil, List.length_set, List.set_set, List.replicate_succ, List.replicate_zero, List.cons_append, List.nil_append, List.getElem?_cons_zero, List.getElem?_cons_succ, List.set_cons_zero, List.set_cons_succ, Bool.false_eq_true, if_false, if_true, Bool.and_self, Bool.or_true, Bool.true_or, decide_true, decide_false, Nat.reduceAdd, Nat.reduceSub, Int.reduceLT, Int.reduceLE, Nat.reduceLT, Nat.reduceLeDiff, reduceCtorEq, List.getElem?_nil, and_true, true_and, Nat.zero_le, Int.toNat_natCast, *])
abbrev Ask : Type := Str × Int × Int
def askV (a : Ask) : PyData := .tuple [.str a.1, .int a.2.1, .int a.2.2]
structure AskOk (a : Ask) : Prop where
  nm : NameOk a.1
  lo : 0 ≤ a.2.1
  hi : a.2.1 ≤ 900
  le : a.2.1 ≤ a.2.2
  end_ : a.2.2 ≤ 909
structure Asks (as : List Ask) : Prop where
  ok : ∀ a ∈ as, AskOk a
  nd : (as.map (·.1)).Nodup
theorem askV_depth (a : Ask) : (askV a).depth = 1 := rfl
variable {p : Prog} {k : Nat}
theorem asks_ok (P : P74 p) {s : Sto} {l m : Nat} {sp wi : Int} (hu : Urn l s) (h1 : m ≤ 20) (h2 : 0 ≤ sp) (h3 : sp ≤ 900) (h4 : 0 ≤ wi) (h5 : wi ≤ 9) :
    Ev ((tbl p (k + 4)).fn ("_law_asks" : Str) [.o l, .d (.int m), .d (.int sp), .d (.int wi)] s) fun v s' => (∃ as, v = .d (.tuple (as.map askV)) ∧ as.length = m ∧ Asks as) ∧ Urn l s' ∧ Kp l s s' := by
  rw [call_fn P.law_asks rfl]
  unfold i_law_asks
  walk_at "fx"
  refine (names_ok P.law_take P.law_of P.law_names hu h1).go fun v s1 ⟨⟨ns, e, hn, hN⟩, hu1, hk1⟩ => ?_
  subst e
  walk_at "fx"
  refine for_inv (fun i ε s' => ∃ (as : List Ask) (e5 e6 : Option Slv), ε = [some (.v (.o l)), some (.v (.d (.int m))), some (.v (.d (.int sp))), some (.v (.d (.int wi))), some (.v (.d (.tuple (as.map askV)))), e5, e6] ∧ as.map (·.1) = ns.take i ∧ as.length = i ∧ (∀ a ∈ as, AskOk a) ∧ Urn l s' ∧ Kp l s s') ?_ ?_ ?_
  · rintro i x ε s2 hx ⟨as, e5, e6, rfl, ha, hl, hA, hu2, hk2⟩
    rw [List.getElem?_map] at hx
    obtain ⟨z, hz, rfl⟩ := Option.map_eq_some_iff.mp hx
    have hi : i < ns.length := (List.getElem?_eq_some_iff.mp hz).1
    have hzo := hN.ok z (List.mem_of_getElem? hz)
    have hsp : (0 : Int) < sp + 1 := by omega
    have hwi : (0 : Int) < wi + 1 := by omega
    walk_at "fx"
    refine (take_ok P.law_take hu2 hsp (by omega)).go fun v s3 ⟨⟨r, e, r1, r2⟩, hu3, hk3⟩ => ?_
    subst e
    walk_at "fx"
    refine (take_ok P.law_take hu3 hwi (by omega)).go fun v s4 ⟨⟨t, e, t1, t2⟩, hu4, hk4⟩ => ?_
    subst e
    walk_at "fx"
    refine (of_list P.law_take P.law_of hu4 (by simp) (by simp)).go fun v s5 ⟨⟨y, e, hy⟩, hu5, hk5⟩ => ?_
    subst e
    have hy' : ∃ σ : Int, 0 ≤ σ ∧ σ ≤ 9 ∧ y = .int σ := by
      simp only [List.mem_cons, List.mem_nil_iff, or_false] at hy
      rcases hy with h | h | h | h
      · exact ⟨0, by omega, by omega, h⟩
      · exact ⟨0, by omega, by omega, h⟩
      · exact ⟨wi, by omega, by omega, h⟩
      · exact ⟨t, by omega, by omega, h⟩
    clear hy
    obtain ⟨σ, σ1, σ2, rfl⟩ := hy'
    have hlen : ((as.map askV ++ [PyData.tuple [.str z, .int r, .int (r + σ)]]).length ≤ sizeLine) = True := by
      rw [List.length_append, List.length_map, hl]; unfold sizeLine; simp; omega
    have hlen1 : (0 + 1 ≤ sizeLine) = True := by unfold sizeLine; simp
    have hlen3 : (0 + 1 + 1 + 1 ≤ sizeLine) = True := by unfold sizeLine; simp
    walk_at "fx"
    refine ⟨as ++ [(z, r, r + σ)], some (.v (.d (.str z))), some (.v (.d (.int r))), ?_, ?_, ?_, ?_, ((hk2.trans hk3).trans hk4).trans hk5⟩
    · rw [List.map_append]; rfl
    · rw [List.map_append, ha, List.take_add_one, hz]; rfl
    · rw [List.length_append, hl]; rfl
    · intro a ha
      rw [List.mem_append, List.mem_singleton] at ha
      rcases ha with ha | rfl
      · exact hA a ha
      · exact ⟨hzo, r1, (by omega : r ≤ 900), (by omega : r ≤ r + σ), (by omega : r + σ ≤ 909)⟩
  · rintro ε s2 ⟨as, e5, e6, rfl, ha, hl, hA, hu2, hk2⟩
    rw [List.length_map] at ha hl
    rw [List.take_length] at ha
    walk_at "fx"
    exact ⟨as, rfl, by omega, hA, by rw [ha]; exact hN.nd⟩
  · exact ⟨[], _, _, rfl, rfl, rfl, fun _ h => (nomatch h), hu1, hk1⟩
end Fx

set_option Elab.async false
set_option linter.all false
set_option maxRecDepth 100000
set_option maxHeartbeats 4000000
/-! Fy9: the tests of the arguments. -/
namespace Fx
open PySem
theorem eqv_str (a b : Str) : PyData.eqv (.str a) (.str b) = decide (a = b) := by
  simp only [PyData.eqv]
  by_cases h : a = b
  · subst h; simp
  · simp [h]
theorem eqv_int (a b : Int) : PyData.eqv (.int a) (.int b) = decide (a = b) := by
  simp only [PyData.eqv]
  by_cases h : a = b
  · subst h; simp
  · simp [h]
theorem fxJ : (∀ i, isiD (.int i) .int = true) ∧ (∀ i, isiD (.int i) .bool = false) ∧ (∀ i, isiD (.str i) .str = true) ∧ (∀ i, isiD (.tuple i) .tuple = true) ∧ (∀ z : Str, (PyData.str z).depth = 0) ∧ (∀ i, (PyData.int i).depth = 0) ∧ (∀ a b : Str, PyData.eqv (.str a) (.str b) = decide (a = b)) ∧ (∀ a b : Int, PyData.eqv (.int a) (.int b) = decide (a = b)) := ⟨fun _ => rfl, fun _ => rfl, fun _ => rfl, fun _ => rfl, fun _ => rfl, fun _ => rfl, eqv_str, eqv_int⟩
local macro_rules | `(tactic| walk_at "fx") => `(tactic| simp only [fxS, fxE, fxV, fxW, fxM, fxI, fxJ, Ev_ok, Ev_bind, at0, at1, at2, at3, atI_nat, List.map_cons, List.map_nil, List.length_cons, List.length_nil, List.length_set, List.set_set, List.replicate_succ, List.replicate_zero, List.cons_append, List.nil_append, List.getElem?_cons_zero, List.getElem?_cons_succ, List.set_cons_zero, List.set_cons_succ, Bool.false_eq_true, if_false, if_true, Bool.and_self, Bool.or_true, Bool.true_or, decide_true, decide_false, Bool.not_true, Bool.not_false, Bool.and_false, Bool.false_and, Nat.zero_min, Nat.reduceAdd, Nat.reduceSub, Int.reduceLT, Int.reduceLE, Nat.reduceLT, Nat.reduceLeDiff, reduceCtorEq, List.getElem?_nil, and_true, true_and, Nat.zero_le, Int.toNat_natCast, *])
/-! ### comprehensions -/
theorem flat_one {α β : Type} (xs : List α) (g : α → β) : xs.flatMap (fun x => [g x]) = xs.map g := by
  induction xs with
  | nil => rfl
  | cons x r ih => rw [List.flatMap_cons, ih]; rfl
theorem flat_if {α β : Type} (xs : List α) (c : α → Bool) (g : α → β) : xs.flatMap (fun x => if c x = true then [g x] else []) = (xs.filter c).map g := by
  induction xs with
  | nil => rfl
  | cons x r ih =>
    rw [List.flatMap_cons, ih]
    cases h : c x with
    | true => rw [if_pos rfl, List.filter_cons_of_pos h]; rfl
    | false => rw [if_neg (by decide), List.filter_cons_of_neg (by simp [h])]; rfl
/-- the items of the walk are the values of g -/
theorem cat_map {α : Type} {f : PyData → M (List (PyData × PyData))} {V : α → PyData} {g : α → PyData} {xs : List α} {s : Sto} {Q : List (PyData × PyData) → Sto → Prop} {u : Lk Q} (h : ∀ x ∈ xs, Ev (f (V x) s) fun ys s' => ys = [(g x, .none)] ∧ s' = s) (hq : Q (xs.map fun x => (g x, .none)) s) : Ev (catL f none (xs.map V) s) Q u := by
  refine cat_inv (fun i acc s' => acc = (xs.take i).map (fun x => (g x, .none)) ∧ s' = s) (fun i x acc s' hx hi => ?_) (fun acc s' hi => ?_) ⟨rfl, rfl⟩
  · obtain ⟨rfl, rfl⟩ := hi
    rw [List.getElem?_map] at hx
    obtain ⟨a, ha, rfl⟩ := Option.map_eq_some_iff.mp hx
    refine (h a (List.mem_of_getElem? ha)).imp fun ys s'' hy => ?_
    obtain ⟨rfl, rfl⟩ := hy
    refine ⟨?_, rfl⟩
    rw [List.take_add_one, ha, List.map_append]
    rfl
  · obtain ⟨rfl, rfl⟩ := hi
    rw [List.length_map, List.take_length]
    exact hq
/-- .. where only some are kept -/
theorem cat_fil {α : Type} {f : PyData → M (List (PyData × PyData))} {V : α → PyData} {c : α → Bool} {g : α → PyData} {xs : List α} {s : Sto} {Q : List (PyData × PyData) → Sto → Prop} {u : Lk Q} (h : ∀ x ∈ xs, Ev (f (V x) s) fun ys s' => ys = (if c x = true then [(g x, .none)] else []) ∧ s' = s) (hq : Q ((xs.filter c).map fun x => (g x, .none)) s) : Ev (catL f none (xs.map V) s) Q u := by
  refine cat_inv (fun i acc s' => acc = ((xs.take i).filter c).map (fun x => (g x, .none)) ∧ s' = s) (fun i x acc s' hx hi => ?_) (fun acc s' hi => ?_) ⟨rfl, rfl⟩
  · obtain ⟨rfl, rfl⟩ := hi
    rw [List.getElem?_map] at hx
    obtain ⟨a, ha, rfl⟩ := Option.map_eq_some_iff.mp hx
    refine (h a (List.mem_of_getElem? ha)).imp fun ys s'' hy => ?_
    obtain ⟨rfl, rfl⟩ := hy
    refine ⟨?_, rfl⟩
    rw [List.take_add_one, ha, List.filter_append, List.map_append]
    congr 1
    show _ = ([a].filter c).map _
    cases hc : c a with
    | true => rw [if_pos rfl, List.filter_cons_of_pos hc]; rfl
    | false => rw [if_neg (by decide), List.filter_cons_of_neg (by simp [hc])]; rfl
  · obtain ⟨rfl, rfl⟩ := hi
    rw [List.length_map, List.take_length]
    exact hq
theorem fst_map {α : Type} {g : α → PyData} {xs : List α} : (xs.map fun x => (g x, PyData.none)).map (·.1) = xs.map g := by rw [List.map_map]; rfl
theorem bools_map {α : Type} {b : α → Bool} {xs : List α} : boolsOf (xs.map fun x => .bool (b x)) = some (xs.map b) := by
  induction xs with
  | nil => rfl
  | cons x r ih =>
    show (boolsOf (r.map fun x => .bool (b x))).map (b x :: ·) = _
    rw [ih]; rfl
theorem ints_map {α : Type} {b : α → Int} {xs : List α} : intsOf (xs.map fun x => .int (b x)) = some (xs.map b) := by
  induction xs with
  | nil => rfl
  | cons x r ih =>
    show (intsOf (r.map fun x => .int (b x))).map (b x :: ·) = _
    rw [ih]; rfl
theorem ints_int {xs : List Int} : intsOf (xs.map PyData.int) = some xs := by
  have := ints_map (b := fun x : Int => x) (xs := xs)
  rw [List.map_id'] at this
  exact this
theorem all_true {α : Type} {xs : List α} : (xs.map fun _ => true).all id = true := by
  rw [List.all_eq_true]
  intro b hb
  obtain ⟨_, _, rfl⟩ := List.mem_map.mp hb
  rfl
variable {p : Prog} {k : Nat} {s : Sto}
theorem low_in {c : Nat} (h1 : 97 ≤ c) (h2 : c ≤ 122) : (!(Builtin.Str.occurrences abc ⟨#[c]⟩ 0 abc.length 1).isEmpty) = true := by
  have h : ∀ i : Fin 26, (!(Builtin.Str.occurrences abc ⟨#[i.val + 97]⟩ 0 abc.length 1).isEmpty) = true := by decide +kernel
  have := h ⟨c - 97, by omega⟩
  have e : c - 97 + 97 = c := by omega
  rw [e] at this
  exact this
theorem whole_ok (P : P74 p) {i : Int} : (tbl p (k + 1)).fn ("is_whole" : Str) [.d (.int i)] s = .ok (.d (.bool true)) s := by
  refine Ev.is (u := lk) ?_
  rw [call_fn P.is_whole rfl]
  unfold i_is_whole
  walk_at "fx"
theorem number_ok (P : P74 p) {i lo hi : Int} (h1 : lo ≤ i) (h2 : i ≤ hi) : (tbl p (k + 2)).fn ("is_number" : Str) [.d (.int i), .d (.int lo), .d (.int hi)] s = .ok (.d (.bool true)) s := by
  refine Ev.is (u := lk) ?_
  rw [call_fn P.is_number rfl]
  unfold i_is_number
  have h3 : (i < lo) = False := by simp; omega
  have := whole_ok (k := k) (s := s) P (i := i)
  walk_at "fx"
theorem number_ge (P : P74 p) {i lo : Int} (h1 : lo ≤ i) : (tbl p (k + 2)).fn ("is_number" : Str) [.d (.int i), .d (.int lo), .d .none] s = .ok (.d (.bool true)) s := by
  refine Ev.is (u := lk) ?_
  rw [call_fn P.is_number rfl]
  unfold i_is_number
  have h3 : (i < lo) = False := by simp; omega
  have := whole_ok (k := k) (s := s) P (i := i)
  walk_at "fx"
theorem name_len {z : Str} (h : NameOk z) : 1 ≤ z.length ∧ z.length ≤ 8 := by
  rw [len_cs]; exact ⟨h.pos, h.le⟩
theorem word_ok (P : P74 p) {z : Str} (h : NameOk z) : (tbl p (k + 1)).fn ("is_word" : Str) [.d (.str z)] s = .ok (.d (.bool true)) s := by
  refine Ev.is (u := lk) ?_
  rw [call_fn P.is_word rfl]
  unfold i_is_word
  have hz : (z = Str.ofString "") = False := by
    simp only [eq_iff_iff, iff_false]
    intro e
    have := h.pos
    rw [e] at this
    exact absurd this (by decide)
  have hgl : (tbl p k).gl (Str.ofString "LETTERS") = some (.str abc) := by
    cases k <;> exact P.g_LETTERS
  have hl : z.cps.toList.length ≤ sizeLine := by
    have : z.cps.toList.length ≤ 8 := h.le
    unfold sizeLine
    omega
  walk_at "fx"
  unfold signs
  refine cat_map (g := fun _ => .bool true) (fun c hc => ?_) ?_
  · have := h.low c hc
    have := low_in this.1 this.2
    walk_at "fx"
  · rw [List.length_map, if_pos hl, fst_map]
    have := bools_map (b := fun _ : Nat => true) (xs := z.cps.toList)
    have := all_true (xs := z.cps.toList)
    walk_at "fx"
def wordS : List Str := ["add", "ahead", "all", "at", "behind", "book", "by", "close", "drop", "end", "ends", "flight", "from", "kinds", "land", "late", "least", "move", "none", "of", "open", "row", "show", "time", "times", "to", "with"]
theorem words_not {z : Str} (h : NameOk z) : (WORDS.any fun y => PyData.eqv y (.str z)) = false := by
  have e : WORDS = wordS.map PyData.str := rfl
  rw [e, any_str]
  refine decide_eq_false fun hm => ?_
  have hw : ∀ w ∈ wordS, (cs w).length ≠ 1 ∧ 113 ∉ cs w := by decide +kernel
  have := hw z hm
  rcases h.odd with h | h
  · exact this.1 h
  · exact this.2 h
theorem name_ok (P : P74 p) {z : Str} (h : NameOk z) : (tbl p (k + 2)).fn ("is_name" : Str) [.d (.str z)] s = .ok (.d (.bool true)) s := by
  refine Ev.is (u := lk) ?_
  rw [call_fn P.is_name rfl]
  unfold i_is_name
  have hgl : (tbl p (k + 1)).gl (Str.ofString "MOST_LETTERS") = some (.int 8) := P.g_MOST_LETTERS
  have hgt : (tbl p (k + 1)).gt (Str.ofString "WORDS") = some WORDS := P.g_WORDS
  have hw := words_not h
  have hl : ((z.length : Int) ≤ 8) = True := eq_true (by have := name_len h; omega)
  have := word_ok (k := k) (s := s) P h
  walk_at "fx"
theorem tuple_ok (P : P74 p) {xs : List PyData} {n : Int} (h : (xs.length : Int) = n) : (tbl p (k + 1)).fn ("is_tuple_of" : Str) [.d (.tuple xs), .d (.int n)] s = .ok (.d (.bool true)) s := by
  refine Ev.is (u := lk) ?_
  rw [call_fn P.is_tuple_of rfl]
  unfold i_is_tuple_of
  walk_at "fx"
theorem ask_ok (P : P74 p) {a : Ask} (h : AskOk a) : (tbl p (k + 3)).fn ("is_ask" : Str) [.d (askV a)] s = .ok (.d (.bool true)) s := by
  refine Ev.is (u := lk) ?_
  rw [call_fn P.is_ask rfl]
  unfold i_is_ask askV
  have hgl : (tbl p (k + 2)).gl (Str.ofString "MOST_SLOT") = some (.int 999) := P.g_MOST_SLOT
  have h1 := tuple_ok (k := k + 1) (s := s) P (xs := [.str a.1, .int a.2.1, .int a.2.2]) (n := 3) rfl
  have h2 := name_ok (k := k) (s := s) P h.nm
  have h3 := number_ok (k := k) (s := s) P (i := a.2.1) (lo := 0) (hi := 999) h.lo (by have := h.hi; omega)
  have h4 := number_ok (k := k) (s := s) P (i := a.2.2) (lo := a.2.1) (hi := 999) h.le (by have := h.end_; omega)
  walk_at "fx"
end Fx

set_option Elab.async false
set_option linter.all false
set_option maxRecDepth 100000
set_option maxHeartbeats 4000000
/-! Fy10: the checks of asks. -/
namespace Fx
open PySem
theorem fxA : (∀ a s (Q : Val → Sto → Prop) (u : Lk Q), Ev (subV (.d (askV a)) (.int 0) s) Q u = Q (.d (.str a.1)) s) ∧ (∀ a s (Q : Val → Sto → Prop) (u : Lk Q), Ev (subV (.d (askV a)) (.int 1) s) Q u = Q (.d (.int a.2.1)) s) ∧ (∀ a s (Q : Val → Sto → Prop) (u : Lk Q), Ev (subV (.d (askV a)) (.int 2) s) Q u = Q (.d (.int a.2.2)) s) ∧ (∀ a, isDct (askV a) = false) := ⟨fun _ _ _ _ => rfl, fun _ _ _ _ => rfl, fun _ _ _ _ => rfl, fun _ => rfl⟩
local macro_rules | `(tactic| walk_at "fx") => `(tactic| simp only [fxS, fxE, fxV, fxW, fxM, fxI, fxJ, fxA, Ev_ok, Ev_bind, at0, at1, at2, at3, atI_nat, List.map_cons, List.map_nil, List.length_cons, List.length_nil, List.length_set, List.set_set, List.replicate_succ, List.replicate_zero, List.cons_append, List.nil_append, List.getElem?_cons_zero, List.getElem?_cons_succ, List.set_cons_zero, List.set_cons_succ, Bool.false_eq_true, if_false, if_true, Bool.and_self, Bool.or_true, Bool.true_or, decide_true, decide_false, Bool.not_true, Bool.not_false, Bool.and_false, Bool.false_and, Nat.zero_min, Nat.reduceAdd, Nat.reduceSub, Int.reduceLT, Int.reduceLE, Nat.reduceLT, Nat.reduceLeDiff, reduceCtorEq, List.getElem?_nil, and_true, true_and, Nat.zero_le, Int.toNat_natCast, *])
variable {p : Prog} {k : Nat} {s : Sto}
theorem cut_takeI {α : Type} (xs : List α) {i : Int} (h : 0 ≤ i) : cut xs none (some i) = xs.take i.toNat := by
  unfold cut
  have e1 : HT.sIx xs.length 0 none = 0 := rfl
  have e2 : HT.sIx xs.length xs.length (some i) = min i.toNat xs.length := by
    show (if i < 0 then _ else _) = _
    rw [if_neg (by omega)]
  rw [e1, e2, List.drop_zero, Nat.sub_zero]
  rcases Nat.le_total i.toNat xs.length with h | h
  · rw [Nat.min_eq_left h]
  · rw [Nat.min_eq_right h, List.take_length, List.take_of_length_le h]
theorem cut_take {α : Type} (xs : List α) (n : Nat) : cut xs none (some (n : Int)) = xs.take n := cut_takeI xs (Int.natCast_nonneg n)
theorem numL_get {xs : List PyData} {i j : Nat} {x : PyData} (h : (numL j xs)[i]? = some x) : ∃ y, xs[i]? = some y ∧ x = .tuple [.int ((j + i : Nat) : Int), y] := by
  induction xs generalizing i j with
  | nil => cases h
  | cons y r ih =>
    cases i with
    | zero => exact ⟨y, rfl, (Option.some.inj h).symm⟩
    | succ i =>
      obtain ⟨z, h1, h2⟩ := ih (j := j + 1) (i := i) h
      refine ⟨z, h1, ?_⟩
      rw [h2]
      congr 3
      omega
theorem numL_len {xs : List PyData} {j : Nat} : (numL j xs).length = xs.length := by
  induction xs generalizing j with
  | nil => rfl
  | cons y r ih =>
    show (numL (j + 1) r).length + 1 = _
    rw [ih]; rfl
theorem right_ok (P : P74 p) {a : Ask} {bs : List Ask} (h : AskOk a) (hn : a.1 ∉ bs.map (·.1)) (hl : bs.length ≤ 20) : (tbl p (k + 4)).cl 1 [] [.d (askV a), .d (.tuple (bs.map askV))] s = .ok (.d (.bool true)) s := by
  refine Ev.is (u := lk) ?_
  rw [call_cl P.cl1 rfl]
  unfold j_1
  have h1 := ask_ok (k := k) (s := s) P h
  have hl2 : (bs.length ≤ sizeLine) = True := eq_true (by unfold sizeLine; omega)
  walk_at "fx"
  refine cat_map (g := fun a => .str a.1) (fun b hb => ?_) ?_
  · walk_at "fx"
  · have h3 := any_str (bs.map (·.1)) a.1
    rw [List.map_map] at h3
    have h4 : decide (a.1 ∈ bs.map (·.1)) = false := decide_eq_false hn
    rw [h4] at h3
    have h5 : (List.map (fun x => x.1) (List.map (fun x : Ask => (PyData.str x.1, PyData.none)) bs)) = bs.map (PyData.str ∘ fun x => x.1) := fst_map
    clear h4
    have h6 : (bs.map fun x : Ask => (PyData.str x.1, PyData.none)).length = bs.length := List.length_map _
    walk_at "fx"
theorem wrong_at_ok (P : P74 p) {as : List Ask} (h : Asks as) (hl : as.length ≤ 20) : (tbl p (k + 5)).fn ("wrong_at" : Str) [.d (.tuple (as.map askV)), .d (.int 20), .c 1 []] s = .ok (.d (.list [])) s := by
  refine Ev.is (u := lk) ?_
  rw [call_fn P.wrong_at rfl]
  unfold i_wrong_at
  walk_at "fx"
  refine for_inv (fun i ε s' => (∃ (e3 e4 : Option Slv), ε = [some (.v (.d (.tuple (as.map askV)))), some (.v (.d (.int 20))), some (.v (.c 1 [])), e3, e4]) ∧ s' = s) ?_ ?_ ?_
  · rintro i x ε s1 hx ⟨⟨e3, e4, rfl⟩, rfl⟩
    obtain ⟨y, hy, rfl⟩ := numL_get hx
    rw [List.getElem?_map] at hy
    obtain ⟨a, ha, rfl⟩ := Option.map_eq_some_iff.mp hy
    have hi := (List.getElem?_eq_some_iff.mp ha).1
    have ht := cut_take (as.map askV) i
    rw [← List.map_take] at ht
    have hr := right_ok (k := k) (s := s1) P (h.ok a (List.mem_of_getElem? ha)) (bs := as.take i) (fun hm => by
      have h1 := h.nd
      rw [List.map_take, List.mem_take_iff_getElem] at hm
      obtain ⟨j, hj, e⟩ := hm
      have := (List.getElem_inj h1 (i := j) (j := i) (h₀ := by omega) (h₁ := by rw [List.length_map]; exact hi)).mp (by
        rw [e, List.getElem_map]
        exact congrArg (·.1) (List.getElem?_eq_some_iff.mp ha).2.symm)
      omega) (by rw [List.length_take]; omega)
    have hz : ((20 : Int) ≤ ((0 + i : Nat) : Int)) = False := by simp; omega
    have hz2 : ((0 + i : Nat) : Int) = (i : Int) := by omega
    rw [hz2] at hz ⊢
    walk_at "fx"
    exact ⟨_, _, rfl⟩
  · rintro ε s1 ⟨⟨e3, e4, rfl⟩, rfl⟩
    walk_at "fx"
  · exact ⟨⟨_, _, rfl⟩, rfl⟩
theorem wrong_from_ok (P : P74 p) {as : List Ask} (h : Asks as) (h0 : 0 < as.length) (hl : as.length ≤ 20) : (tbl p (k + 6)).fn ("wrong_from_one" : Str) [.d (.tuple (as.map askV)), .d (.int 20), .c 1 []] s = .ok (.d (.list [])) s := by
  refine Ev.is (u := lk) ?_
  rw [call_fn P.wrong_from_one rfl]
  unfold i_wrong_from_one
  have h1 := wrong_at_ok (k := k) (s := s) P h hl
  have h2 : PyData.eqv (.tuple (as.map askV)) (.tuple []) = false := by
    cases as with
    | nil => exact absurd h0 (by decide)
    | cons a r => rfl
  have h3 : decide (min (PyData.tuple (as.map askV)).depth (PyData.tuple []).depth ≤ 64) = true := decide_eq_true (Nat.le_trans (Nat.min_le_right _ _) (by decide))
  walk_at "fx"
theorem wrong_asks_ok (P : P74 p) {as : List Ask} (h : Asks as) (h0 : 0 < as.length) (hl : as.length ≤ 20) : (tbl p (k + 7)).fn ("wrong_asks" : Str) [.d (.tuple (as.map askV))] s = .ok (.d (.list [])) s := by
  refine Ev.is (u := lk) ?_
  rw [call_fn P.wrong_asks rfl]
  unfold i_wrong_asks
  have hc : ∀ ε, capD ε [] = some [] := fun _ => rfl
  have h1 := wrong_from_ok (k := k) (s := s) P h h0 hl
  have hgl : (tbl p (k + 6)).gl (Str.ofString "MOST_ASKS") = some (.int 20) := P.g_MOST_ASKS
  walk_at "fx"
theorem check_asks_ok (P : P74 p) {as : List Ask} (h : Asks as) (h0 : 0 < as.length) (hl : as.length ≤ 20) : (tbl p (k + 8)).fn ("check_asks" : Str) [.d (.tuple (as.map askV))] s = .ok (.d .none) s := by
  refine Ev.is (u := lk) ?_
  rw [call_fn P.check_asks rfl]
  unfold i_check_asks
  have hf : ∀ f ε s (Q : Fl → Sto → Prop) (u : Lk Q), Ev (forS f none [] ε s) Q u = Q (.nx ε) s := fun _ _ _ _ _ => rfl
  have h1 := wrong_asks_ok (k := k) (s := s) P h h0 hl
  walk_at "fx"
theorem check_number_ok (P : P74 p) {i lo hi : Int} (h1 : lo ≤ i) (h2 : i ≤ hi) : (tbl p (k + 3)).fn ("check_number" : Str) [.d (.int i), .d (.int lo), .d (.int hi)] s = .ok (.d .none) s := by
  refine Ev.is (u := lk) ?_
  rw [call_fn P.check_number rfl]
  unfold i_check_number
  have h1 := number_ok (k := k) (s := s) P h1 h2
  walk_at "fx"
theorem check_asked_ok (P : P74 p) {as : List Ask} (h : Asks as) (h0 : 0 < as.length) (hl : as.length ≤ 20) {m : Int} (m1 : 1 ≤ m) (m2 : m ≤ 4) : (tbl p (k + 9)).fn ("check_asked" : Str) [.d (.tuple (as.map askV)), .d (.int m)] s = .ok (.d .none) s := by
  refine Ev.is (u := lk) ?_
  rw [call_fn P.check_asked rfl]
  unfold i_check_asked
  have h1 := check_asks_ok (k := k) (s := s) P h h0 hl
  have h2 := check_number_ok (k := k + 5) (s := s) P m1 m2
  have hgl : (tbl p (k + 8)).gl (Str.ofString "MOST_RUNWAYS") = some (.int 4) := P.g_MOST_RUNWAYS
  walk_at "fx"
end Fx

set_option Elab.async false
set_option linter.all false
set_option maxRecDepth 100000
set_option maxHeartbeats 1000000
/-! Fy11: fillings, plainly. -/
namespace Fx
open PySem
theorem dEq_int (a b : Int) : dEq (.int a) (.int b) = decide (a = b) := rfl
theorem look_put {ps : List (PyData × PyData)} {k i : Int} {v : PyData} : lookD (putD ps (.int k) v) (.int i) = if i = k then some v else lookD ps (.int i) := by
  have ex : ∀ (d : PyData) (j : Int), dEq d (.int j) = true → d = .int j := fun d j h => by
    cases d <;> first | (simp only [dEq, decide_eq_true_eq] at h; rw [h]) | (simp [dEq] at h)
  unfold putD
  by_cases hs : (lookD ps (.int k)).isSome = true
  · rw [if_pos hs]
    have hm : ∀ j : Int, (∀ q : PyData × PyData, q ∈ ps → True) → lookD (ps.map fun p => if dEq p.1 (.int k) = true then (p.1, v) else p) (.int j) = if j = k then (lookD ps (.int j)).map (fun _ => v) else lookD ps (.int j) := by
      intro j _
      clear hs
      induction ps with
      | nil => simp [lookD]
      | cons q r ih =>
        unfold lookD at ih ⊢
        rw [List.map_cons, List.find?_cons, List.find?_cons]
        have e1 : dEq (if dEq q.1 (.int k) = true then (q.1, v) else q).1 (.int j) = dEq q.1 (.int j) := by split <;> rfl
        rw [e1]
        cases hq : dEq q.1 (.int j) with
        | true =>
          have := ex _ _ hq
          show Option.map _ (some _) = if j = k then Option.map _ (Option.map _ (some q)) else Option.map _ (some q)
          rw [this, dEq_int]
          by_cases hjk : j = k
          · subst hjk
            simp
          · simp [hjk]
        | false => exact ih (fun _ _ => trivial)
    rw [hm i (fun _ _ => trivial)]
    by_cases hik : i = k
    · subst hik
      rw [if_pos rfl, if_pos rfl]
      cases hl : lookD ps (.int i) with
      | none => rw [hl] at hs; cases hs
      | some x => rfl
    · rw [if_neg hik, if_neg hik]
  · rw [if_neg hs]
    have hn : lookD ps (.int k) = none := by
      cases hl : lookD ps (.int k) with
      | none => rfl
      | some x => rw [hl] at hs; exact absurd rfl hs
    unfold lookD at hn ⊢
    rw [List.find?_append]
    by_cases hik : i = k
    · subst hik
      rw [if_pos rfl]
      rw [Option.map_eq_none_iff] at hn
      rw [hn]
      simp [dEq_int]
    · rw [if_neg hik]
      have : (List.find? (fun p : PyData × PyData => dEq p.1 (.int i)) [(.int k, v)]) = none := by
        simp [dEq_int]
        omega
      rw [this, Option.or_none]
theorem put_len (ps : List (PyData × PyData)) (k v : PyData) : (putD ps k v).length ≤ ps.length + 1 := by
  unfold putD
  split
  · rw [List.length_map]; omega
  · rw [List.length_append, List.length_singleton]; omega
/-! ### the first free one -/
section
variable {u : Int → Nat} {m n : Nat} {x : Int}
def stp (u : Int → Nat) (m : Nat) (x : Int) : Int := if m ≤ u x then x + 1 else x
def itr (u : Int → Nat) (m : Nat) : Nat → Int → Int
  | 0, x => x
  | n + 1, x => stp u m (itr u m n x)
/-- y is the first free one from x on -/
structure FF (u : Int → Nat) (m : Nat) (x y : Int) : Prop where
  ge : x ≤ y
  free : u y < m
  full : ∀ z, x ≤ z → z < y → u z = m
theorem FF.uniq {y z : Int} (a : FF u m x y) (b : FF u m x z) : y = z := by
  rcases Int.lt_trichotomy y z with h | h | h
  · have := b.full y a.ge h
    have := a.free
    omega
  · exact h
  · have := a.full z b.ge h
    have := b.free
    omega
theorem itr_ff (hu : ∀ z, u z ≤ m) (hb : ∀ j : Nat, (∀ z : Int, x ≤ z → z < x + j → u z = m) → j < n) : FF u m x (itr u m n x) := by
  have h : ∀ i, (itr u m i x = x + i ∧ ∀ z, x ≤ z → z < x + i → u z = m) ∨ FF u m x (itr u m i x) := by
    intro i
    induction i with
    | zero => exact .inl ⟨by show x = _; omega, fun z h1 h2 => by omega⟩
    | succ i ih =>
      show (stp u m (itr u m i x) = _ ∧ _) ∨ FF u m x (stp u m (itr u m i x))
      rcases ih with ⟨h1, h2⟩ | h
      · rw [h1]
        unfold stp
        by_cases hf : m ≤ u (x + i)
        · rw [if_pos hf]
          left
          refine ⟨by omega, fun z z1 z2 => ?_⟩
          by_cases hz : z = x + i
          · rw [hz]; have := hu (x + i); omega
          · exact h2 z z1 (by omega)
        · rw [if_neg hf]
          right
          exact ⟨by omega, by omega, h2⟩
      · right
        unfold stp
        have := h.free
        rw [if_neg (by omega)]
        exact h
  rcases h n with ⟨_, h2⟩ | h
  · exact absurd (hb n h2) (by omega)
  · exact h
theorem itr_le : itr u m n x ≤ x + n := by
  induction n with
  | zero => show x ≤ _; omega
  | succ n ih =>
    show stp u m _ ≤ _
    unfold stp
    split <;> omega
end
/-! ### a filling -/
abbrev Fill : Type := List (Nat × Int)
def us (acc : Fill) (x : Int) : Nat := acc.countP fun q => decide (q.2 = x)
theorem us_snoc {acc : Fill} {k : Nat} {y x : Int} : us (acc ++ [(k, y)]) x = us acc x + if y = x then 1 else 0 := by
  unfold us
  rw [List.countP_append, List.countP_singleton]
  by_cases h : y = x <;> simp [h]
theorem us_le (acc : Fill) (x : Int) : us acc x ≤ acc.length := List.countP_le_length
theorem us_room {acc : Fill} {m : Nat} {x : Int} (hm : 1 ≤ m) {j : Nat} (h : ∀ z : Int, x ≤ z → z < x + j → us acc z = m) : j ≤ acc.length := by
  have key : ∀ i, i ≤ j → i ≤ acc.countP fun q => decide (x ≤ q.2 ∧ q.2 < x + i) := by
    intro i
    induction i with
    | zero => intro _; exact Nat.zero_le _
    | succ i ih =>
      intro hi
      have h1 := ih (by omega)
      have h2 := h (x + i) (by omega) (by omega)
      have h3 : (acc.countP fun q => decide (x ≤ q.2 ∧ q.2 < x + (i + 1 : Nat))) = (acc.countP fun q => decide (x ≤ q.2 ∧ q.2 < x + i)) + us acc (x + i) := by
        unfold us
        clear h1 h2 ih h
        induction acc with
        | nil => rfl
        | cons q r ih =>
          rw [List.countP_cons, List.countP_cons, List.countP_cons, ih]
          by_cases a : q.2 = x + i
          · rw [if_pos (by simp; omega), if_neg (by simp; omega), if_pos (by simp; omega)]
            omega
          · by_cases b : x ≤ q.2 ∧ q.2 < x + i
            · rw [if_pos (by simp; omega), if_pos (by simp; omega), if_neg (by simp; omega)]
              omega
            · rw [if_neg (by simp; omega), if_neg (by simp; omega), if_neg (by simp; omega)]
              omega
      rw [h3, h2]
      omega
  exact Nat.le_trans (key j (Nat.le_refl _)) List.countP_le_length
structure Good (f : Nat → Int) (m : Nat) (acc : Fill) : Prop where
  le : ∀ x, us acc x ≤ m
  ge : ∀ q ∈ acc, f q.1 ≤ q.2
  up : ∀ q ∈ acc, q.2 ≤ f q.1 + acc.length
  full : ∀ q ∈ acc, ∀ z, f q.1 ≤ z → z < q.2 → us acc z = m
theorem good_nil {f : Nat → Int} {m : Nat} : Good f m [] := ⟨fun _ => Nat.zero_le _, fun _ h => (nomatch h), fun _ h => (nomatch h), fun _ h => (nomatch h)⟩
theorem good_snoc {f : Nat → Int} {m : Nat} {acc : Fill} {k : Nat} {y : Int} (G : Good f m acc) (h : FF (us acc) m (f k) y) (hm : 1 ≤ m) : Good f m (acc ++ [(k, y)]) := by
  have hy : y ≤ f k + acc.length := by
    have := us_room (acc := acc) (x := f k) hm (j := (y - f k).toNat) fun z h1 h2 => h.full z h1 (by have := h.ge; omega)
    have := h.ge
    omega
  refine ⟨fun x => ?_, fun q hq => ?_, fun q hq => ?_, fun q hq z h1 h2 => ?_⟩
  · rw [us_snoc]
    have := G.le x
    by_cases e : y = x
    · subst e
      have := h.free
      rw [if_pos rfl]
      omega
    · rw [if_neg e]
      omega
  · rw [List.mem_append, List.mem_singleton] at hq
    rcases hq with hq | rfl
    · exact G.ge q hq
    · exact h.ge
  · rw [List.length_append, List.length_singleton]
    rw [List.mem_append, List.mem_singleton] at hq
    rcases hq with hq | rfl
    · have := G.up q hq
      omega
    · show y ≤ f k + _
      omega
  · have hz : us acc z = m := by
      rw [List.mem_append, List.mem_singleton] at hq
      rcases hq with hq | rfl
      · exact G.full q hq z h1 h2
      · exact h.full z h1 h2
    rw [us_snoc, hz]
    by_cases e : y = z
    · subst e
      have := h.free
      omega
    · rw [if_neg e]
      rfl
def fill (f : Nat → Int) (m n : Nat) (os : List Nat) : Fill := os.foldl (fun acc k => acc ++ [(k, itr (us acc) m n (f k))]) []
theorem fill_snoc {f : Nat → Int} {m n : Nat} {os : List Nat} {k : Nat} : fill f m n (os ++ [k]) = fill f m n os ++ [(k, itr (us (fill f m n os)) m n (f k))] := by
  unfold fill
  rw [List.foldl_append]
  rfl
theorem fill_fst {f : Nat → Int} {m n : Nat} {os : List Nat} : (fill f m n os).map (·.1) = os := by
  suffices h : ∀ (os : List Nat) (acc : Fill), (os.foldl (fun acc k => acc ++ [(k, itr (us acc) m n (f k))]) acc).map (·.1) = acc.map (·.1) ++ os from h os []
  intro os
  induction os with
  | nil => intro acc; simp
  | cons k r ih => intro acc; rw [List.foldl_cons, ih]; simp
theorem fill_len {f : Nat → Int} {m n : Nat} {os : List Nat} : (fill f m n os).length = os.length := by
  have := congrArg List.length (fill_fst (f := f) (m := m) (n := n) (os := os))
  rwa [List.length_map] at this
theorem fill_good {f : Nat → Int} {m n : Nat} (hm : 1 ≤ m) {os : List Nat} (hn : os.length ≤ n) : Good f m (fill f m n os) ∧ ∀ k, os.length < n → FF (us (fill f m n os)) m (f k) (itr (us (fill f m n os)) m n (f k)) := by
  have hff : ∀ os : List Nat, Good f m (fill f m n os) → ∀ k, os.length < n → FF (us (fill f m n os)) m (f k) (itr (us (fill f m n os)) m n (f k)) := fun os G k hl =>
    itr_ff G.le fun j hj => by
      have := us_room hm hj
      rw [fill_len] at this
      omega
  have hg : ∀ i, i ≤ os.length → Good f m (fill f m n (os.take i)) := by
    intro i
    induction i with
    | zero => intro _; exact good_nil
    | succ i ih =>
      intro hi
      rw [List.take_add_one, List.getElem?_eq_getElem (by omega)]
      show Good f m (fill f m n (os.take i ++ [os[i]]))
      rw [fill_snoc]
      exact good_snoc (ih (by omega)) (hff _ (ih (by omega)) _ (by rw [List.length_take]; omega)) hm
  have := hg os.length (Nat.le_refl _)
  rw [List.take_length] at this
  exact ⟨this, hff os this⟩
/-- the slot of the k-th -/
def slt (acc : Fill) (k : Nat) : Option Int := (acc.find? fun q => decide (q.1 = k)).map (·.2)
theorem slt_snoc {acc : Fill} {k : Nat} {y : Int} {i : Nat} (h : k ∉ acc.map (·.1)) : slt (acc ++ [(k, y)]) i = if i = k then some y else slt acc i := by
  unfold slt
  rw [List.find?_append]
  by_cases e : i = k
  · subst e
    rw [if_pos rfl]
    have : (acc.find? fun q => decide (q.1 = i)) = none := by
      rw [List.find?_eq_none]
      intro q hq hd
      exact h (List.mem_map.mpr ⟨q, hq, of_decide_eq_true hd⟩)
    rw [this]
    simp
  · rw [if_neg e]
    have : (List.find? (fun q : Nat × Int => decide (q.1 = i)) [(k, y)]) = none := by
      simp
      omega
    rw [this, Option.or_none]
end Fx

set_option Elab.async false
set_option linter.all false
set_option maxRecDepth 100000
set_option maxHeartbeats 4000000
/-! Fy12: the loops that fill. -/
namespace Fx
open PySem
def slD (o : Option (Option Slv)) : Option PyData := match o with
  | some (some (.v (.d x))) => some x
  | _ => none
theorem fxK : (∀ ε i, rdV ε i = slD (ε[i]?)) ∧ (∀ x, slD (some (some (.v (.d x)))) = some x) ∧ (∀ i j s (Q : Val → Sto → Prop) (u : Lk Q), Ev (ipD .Add (.int i) (.int j) s) Q u = Q (.d (.int (i + j))) s) ∧ (∀ i j s (Q : Val → Sto → Prop) (u : Lk Q), Ev (ipD .Sub (.int i) (.int j) s) Q u = Q (.d (.int (i - j))) s) ∧ (∀ i : Int, isKey (.int i) = true) ∧ (∀ i : Int, isTk (.int i) = false) := ⟨fun _ _ => rfl, fun _ => rfl, fun _ _ _ _ _ => rfl, fun _ _ _ _ _ => rfl, fun _ => rfl, fun _ => rfl⟩
local macro_rules | `(tactic| walk_at "fx") => `(tactic| simp only [fxS, fxE, fxV, fxW, fxM, fxI, fxJ, fxA, fxK, capD, beq_self_eq_true, Int.natCast_inj, Ev_ok, Ev_bind, at0, at1, at2, at3, atI_nat, List.map_cons, List.map_nil, List.length_cons, List.length_nil, List.length_set, List.set_set, List.replicate_succ, List.replicate_zero, List.cons_append, List.nil_append, List.getElem?_cons_zero, List.getElem?_cons_succ, List.set_cons_zero, List.set_cons_succ, Bool.false_eq_true, if_false, if_true, Bool.and_self, Bool.or_true, Bool.true_or, decide_true, decide_false, Bool.not_true, Bool.not_false, Bool.and_false, Bool.false_and, Nat.zero_min, Nat.reduceAdd, Nat.reduceSub, Int.reduceLT, Int.reduceLE, Nat.reduceLT, Nat.reduceLeDiff, reduceCtorEq, List.getElem?_nil, and_true, true_and, Nat.zero_le, Int.toNat_natCast, *])
variable {p : Prog} {k : Nat} {s : Sto}
/-- a dict that counts -/
structure Cnt (ps : List (PyData × PyData)) (u : Int → Nat) : Prop where
  at_ : ∀ x, (lookD ps (.int x)).getD (.int 0) = .int (u x)
theorem dec_int (a b : Nat) : decide ((a : Int) = (b : Int)) = decide (a = b) := by
  by_cases h : a = b
  · subst h; simp
  · rw [decide_eq_false h, decide_eq_false (by omega)]
theorem free_ok (P : P74 p) {l m : Nat} {x y : Int} {ps : List (PyData × PyData)} {u : Int → Nat} (hl : s[l]? = some (.dct false ps)) (hc : Cnt ps u) (hf : FF u m x y) (hb : y ≤ x + 1000) :
    (tbl p (k + 1)).fn ("first_free" : Str) [.o l, .d (.int m), .d (.int x)] s = .ok (.d (.int y)) s := by
  refine Ev.is (u := lk) ?_
  rw [call_fn P.first_free rfl]
  unfold i_first_free
  walk_at "fx"
  refine whl_inv (fun j ε s' => ∃ z : Int, ε = [some (.v (.o l)), some (.v (.d (.int m))), some (.v (.d (.int x))), some (.v (.d (.int z)))] ∧ x ≤ z ∧ z ≤ y ∧ j = (y - z).toNat ∧ s' = s) ?_ (m := (y - x).toNat) (by omega) ⟨x, rfl, Int.le_refl _, hf.ge, rfl, rfl⟩
  rintro j ε s1 ⟨z, rfl, h1, h2, rfl, rfl⟩
  have hg := hc.at_ z
  by_cases hz : z = y
  · subst hz
    have hlt := hf.free
    have hne : (u z = m) = False := by simp; omega
    walk_at "fx"
  · have hne : u z = m := hf.full z h1 (by omega)
    walk_at "fx"
    exact ⟨_, by omega, z + 1, rfl, by omega, by omega, rfl⟩
/-! ### sorting by a key -/
theorem rngL_nat {n : Nat} : rngL 0 n 1 = (List.range n).map fun (i : Nat) => PyData.int (i : Int) := by
  unfold rngL
  refine List.map_congr_left fun i _ => ?_
  rw [Int.zero_add, Int.mul_one]
theorem keys_ok {Φ : Tbl} {f : Val} {α : Type} {V K : α → PyData} : ∀ {xs : List α}, (∀ x ∈ xs, callV Φ f [.d (V x)] s = .ok (.d (K x)) s) → (∀ x ∈ xs, isDct (K x) = false) → keysOf Φ f (xs.map V) s = .ok (xs.map K) s := by
  intro xs
  induction xs with
  | nil => intro _ _; rfl
  | cons x r ih =>
    intro h hd
    have h1 := h x List.mem_cons_self
    have h2 := ih (fun y hy => h y (List.mem_cons_of_mem _ hy)) (fun y hy => hd y (List.mem_cons_of_mem _ hy))
    have h3 := hd x List.mem_cons_self
    refine Ev.is (u := lk) ?_
    show Ev (M.bind (callV Φ f [.d (V x)]) (fun k => M.bind (datP k) fun k => M.bind (keysOf Φ f (r.map V)) fun ks => M.pure (k :: ks)) s) _
    walk_at "fx"
def ord (K : Nat → PyData) (n : Nat) : List Nat := (List.range n).mergeSort fun a b => PySem.W.dataLe false id (K a) (K b)
theorem ord_perm {K : Nat → PyData} {n : Nat} : (ord K n).Perm (List.range n) := List.mergeSort_perm _ _
theorem sortD_ord {K : Nat → PyData} {n : Nat} : sortD ((List.range n).map K) = (ord K n).map K := by
  unfold sortD ord
  exact (List.map_mergeSort (f := K) (r := fun a b => PySem.W.dataLe false id (K a) (K b)) (s := PySem.W.dataLe false id) fun a _ b _ => rfl).symm
theorem sortByK_ord {K V : Nat → PyData} {n : Nat} : sortByK ((List.range n).map V) ((List.range n).map K) = (ord K n).map V := by
  unfold sortByK ord
  rw [List.zip_map', ← List.map_mergeSort (f := fun a => (V a, K a)) (s := PySem.W.dataLe false fun x : PyData × PyData => x.2) (r := fun a b => PySem.W.dataLe false id (K a) (K b)) (fun a _ b _ => rfl), List.map_map]
  rfl
theorem sortR_ok {Φ : Tbl} {f : Val} {n : Nat} {K : Nat → PyData} {Q : Val → Sto → Prop} {u : Lk Q} (hF : isF f = true) (hn : n ≤ 1000) (h : ∀ i ∈ List.range n, callV Φ f [.d (.int (i : Int))] s = .ok (.d (K i)) s) (hd : ∀ i ∈ List.range n, isDct (K i) = false) (hs : sortOk ((List.range n).map K) = true) (hdep : (((List.range n).map K).all fun y => decide (y.depth ≤ 60)) = true)
    (hq : Q (.d (.list ((ord K n).map fun (i : Nat) => PyData.int (i : Int)))) s) : Ev (sortRF Φ false f (n : Int) s) Q u := by
  unfold sortRF
  have hb := bnd_of (i := (n : Int)) (by omega) (by omega)
  have h1 : decide ((n : Int) ≤ 1000) = true := decide_eq_true (by omega)
  rw [if_pos hF, hb, h1, Int.toNat_natCast, rngL_nat]
  simp only [Bool.and_self, if_true]
  rw [Ev_bind, Ev_calm]
  refine Ev.of (keys_ok h hd) ?_
  unfold sortF
  rw [hs, hdep, sortByK_ord]
  simp only [Bool.and_self, if_true]
  exact hq
/-- the keys of asks -/
def keyA (f : Nat → Int) (i : Nat) : PyData := .tuple [.int (f i), .int (i : Int)]
theorem keyA_ok {f : Nat → Int} {n : Nat} : sortOk ((List.range n).map (keyA f)) = true ∧ (((List.range n).map (keyA f)).all fun y => decide (y.depth ≤ 60)) = true := by
  constructor
  · unfold sortOk
    have h1 : ((List.range n).map (keyA f)).all (fun a => ((List.range n).map (keyA f)).all fun b => PySem.W.alike a b) = true := by
      rw [List.all_eq_true]
      intro a ha
      rw [List.all_eq_true]
      intro b hb
      obtain ⟨i, _, rfl⟩ := List.mem_map.mp ha
      obtain ⟨j, _, rfl⟩ := List.mem_map.mp hb
      rfl
    have h2 : (((List.range n).map (keyA f)).all fun a => match a with | .tuple (_ :: _) => true | _ => false) = true := by
      rw [List.all_eq_true]
      intro a ha
      obtain ⟨i, _, rfl⟩ := List.mem_map.mp ha
      rfl
    rw [h1]
    show (_ || _) = true
    rw [Bool.or_eq_true]
    exact .inl h2
  · rw [List.all_eq_true]
    intro a ha
    obtain ⟨i, _, rfl⟩ := List.mem_map.mp ha
    rfl
/-- the first slots of asks -/
def fst (as : List Ask) (i : Nat) : Int := match as[i]? with
  | some a => a.2.1
  | none => 0
theorem key_ok (P : P74 p) {as : List Ask} {i : Nat} (hi : i < as.length) : (tbl p (k + 1)).cl 0 [.tuple (as.map askV)] [.d (.int (i : Int))] s = .ok (.d (keyA (fst as) i)) s := by
  refine Ev.is (u := lk) ?_
  rw [call_cl P.cl0 rfl]
  unfold j_0
  have h1 : (as.map askV)[i]? = some (askV as[i]) := by rw [List.getElem?_map, List.getElem?_eq_getElem hi]; rfl
  have h2 : fst as i = as[i].2.1 := by unfold fst; rw [List.getElem?_eq_getElem hi]
  unfold keyA
  have h3 : (0 + 1 + 1 ≤ sizeLine) = True := eq_true (by unfold sizeLine; omega)
  walk_at "fx"
end Fx

set_option Elab.async false
set_option linter.all false
set_option maxRecDepth 100000
set_option maxHeartbeats 4000000
/-! Fy13: what is filled. -/
namespace Fx
open PySem
local macro_rules | `(tactic| walk_at "fx") => `(tactic| simp only [fxS, fxE, fxV, fxW, fxM, fxI, fxJ, fxA, fxK, capD, beq_self_eq_true, Int.natCast_inj, Ev_ok, Ev_bind, at0, at1, at2, at3, atI_nat, List.map_cons, List.map_nil, List.length_cons, List.length_nil, List.length_map, List.length_set, List.set_set, List.replicate_succ, List.replicate_zero, List.cons_append, List.nil_append, List.getElem?_cons_zero, List.getElem?_cons_succ, List.set_cons_zero, List.set_cons_succ, Bool.false_eq_true, if_false, if_true, Bool.and_self, Bool.or_true, Bool.true_or, decide_true, decide_false, Bool.not_true, Bool.not_false, Bool.and_false, Bool.false_and, Nat.zero_min, Nat.reduceAdd, Nat.reduceSub, Int.reduceLT, Int.reduceLE, Nat.reduceLT, Nat.reduceLeDiff, reduceCtorEq, List.getElem?_nil, and_true, true_and, Nat.zero_le, Int.toNat_natCast, *])
variable {p : Prog} {k : Nat} {s : Sto}
theorem two_at : (∀ a b : Cel, (s ++ [a, b])[s.length]? = some a) ∧ (∀ a b : Cel, (s ++ [a, b])[s.length + 1]? = some b) ∧ (∀ a b c : Cel, (s ++ [a, b]).set s.length c = s ++ [c, b]) ∧ (∀ a b c : Cel, (s ++ [a, b]).set (s.length + 1) c = s ++ [a, c]) ∧ (∀ a b : Cel, s ++ [a] ++ [b] = s ++ [a, b]) ∧ (∀ a : Cel, (s ++ [a]).length = s.length + 1) := by
  refine ⟨fun a b => ?_, fun a b => ?_, fun a b c => ?_, fun a b c => ?_, fun a b => ?_, fun a => ?_⟩
  · rw [List.getElem?_append_right (Nat.le_refl _), Nat.sub_self]; rfl
  · rw [List.getElem?_append_right (by omega), Nat.add_sub_cancel_left]; rfl
  · rw [List.set_append_right _ _ (Nat.le_refl _), Nat.sub_self]; rfl
  · rw [List.set_append_right _ _ (by omega), Nat.add_sub_cancel_left]; rfl
  · rw [List.append_assoc]; rfl
  · rw [List.length_append]; rfl
/-- the filling of asks -/
def fil (as : List Ask) (m : Nat) : Fill := fill (fst as) m as.length (ord (keyA (fst as)) as.length)
def slo (as : List Ask) (m : Nat) (i : Nat) : Int := (slt (fil as m) i).getD 0
def slots (as : List Ask) (m : Nat) : List Int := (List.range as.length).map (slo as m)
theorem ord_lt {K : Nat → PyData} {n i x : Nat} (h : (ord K n)[i]? = some x) : x < n := List.mem_range.mp (ord_perm.mem_iff.mp (List.mem_of_getElem? h))
theorem ord_len {K : Nat → PyData} {n : Nat} : (ord K n).length = n := by rw [ord_perm.length_eq, List.length_range]
theorem ord_nodup {K : Nat → PyData} {n : Nat} : (ord K n).Nodup := ord_perm.nodup_iff.mpr List.nodup_range
theorem ask_at {as : List Ask} {i : Nat} (h : i < as.length) : (as.map askV)[i]? = some (askV as[i]) ∧ fst as i = as[i].2.1 := by
  constructor
  · rw [List.getElem?_map, List.getElem?_eq_getElem h]; rfl
  · unfold fst; rw [List.getElem?_eq_getElem h]
/-- a step of filling -/
theorem step_fill {f : Nat → Int} {m n : Nat} (hm : 1 ≤ m) {os : List Nat} (hn : os.length ≤ n) (hd : os.Nodup) {i x : Nat} (hx : os[i]? = some x) : ∃ y, fill f m n (os.take (i + 1)) = fill f m n (os.take i) ++ [(x, y)] ∧ FF (us (fill f m n (os.take i))) m (f x) y ∧ y = itr (us (fill f m n (os.take i))) m n (f x) ∧ y ≤ f x + n ∧ (∀ j, slt (fill f m n (os.take (i + 1))) j = if j = x then some y else slt (fill f m n (os.take i)) j) := by
  have hi := (List.getElem?_eq_some_iff.mp hx).1
  have ht : os.take (i + 1) = os.take i ++ [x] := by rw [List.take_add_one, hx]; rfl
  have hg := (fill_good (f := f) hm (os := os.take i) (n := n) (by rw [List.length_take]; omega)).2 x (by rw [List.length_take]; omega)
  refine ⟨_, by rw [ht]; exact fill_snoc, hg, rfl, itr_le, fun j => ?_⟩
  rw [ht, fill_snoc]
  refine slt_snoc ?_
  rw [fill_fst]
  intro hm'
  rw [List.mem_take_iff_getElem] at hm'
  obtain ⟨j, hj, e⟩ := hm'
  have := (List.getElem_inj hd (i := j) (j := i) (h₀ := by omega) (h₁ := hi)).mp (by rw [e, (List.getElem?_eq_some_iff.mp hx).2])
  omega
theorem slt_mem {acc : Fill} {j : Nat} {y : Int} (h : slt acc j = some y) : (j, y) ∈ acc := by
  unfold slt at h
  obtain ⟨q, hq, rfl⟩ := Option.map_eq_some_iff.mp h
  have h1 := List.find?_some hq
  have h2 := List.mem_of_find?_eq_some hq
  have : q.1 = j := of_decide_eq_true h1
  rw [← this]
  exact h2
theorem slt_some {acc : Fill} {j : Nat} (h : j ∈ acc.map (·.1)) : ∃ y, slt acc j = some y := by
  unfold slt
  cases hf : acc.find? fun q => decide (q.1 = j) with
  | some q => exact ⟨q.2, rfl⟩
  | none =>
    rw [List.find?_eq_none] at hf
    obtain ⟨q, hq, e⟩ := List.mem_map.mp h
    exact absurd (decide_eq_true e) (hf q hq)
theorem slo_eq {as : List Ask} {m i : Nat} (h : i < as.length) : slt (fil as m) i = some (slo as m i) := by
  obtain ⟨y, hy⟩ := slt_some (acc := fil as m) (j := i) (by
    unfold fil
    rw [fill_fst]
    exact ord_perm.mem_iff.mpr (List.mem_range.mpr h))
  unfold slo
  rw [hy]
  rfl
theorem sortA_ok {Φ : Tbl} {n : Nat} {f : Nat → Int} {v : Val} (hv : isF v = true) (hn : n ≤ 1000) (hc : ∀ i ∈ List.range n, callV Φ v [.d (.int (i : Int))] s = .ok (.d (keyA f i)) s) : sortRF Φ false v (n : Int) s = .ok (.d (.list ((ord (keyA f) n).map fun (i : Nat) => PyData.int (i : Int)))) s := by
  refine Ev.is (u := lk) ?_
  have hk := keyA_ok (f := f) (n := n)
  refine sortR_ok (K := keyA f) hv hn ?_ ?_ hk.1 ?_ ?_
  · exact hc
  · exact fun _ _ => rfl
  · exact hk.2
  · exact ⟨rfl, rfl⟩
theorem filled_ok (P : P74 p) {as : List Ask} {m : Nat} (hA : Asks as) (hl : as.length ≤ 20) (hm : 1 ≤ m) :
    Ev ((tbl p (k + 2)).fn ("filled" : Str) [.d (.tuple (as.map askV)), .d (.int m)] s) fun v s' => v = .d (.list ((slots as m).map .int)) ∧ ∃ g, s' = s ++ g := by
  rw [call_fn P.filled rfl]
  unfold i_filled
  obtain ⟨t1, t2, t3, t4, t5, t6⟩ := two_at (s := s)
  walk_at "fx"
  have hc : ∀ i ∈ List.range as.length, callV (tbl p (k + 1)) (.c 0 [.tuple (as.map askV)]) [.d (.int (i : Int))] (s ++ [.dct false [], .dct false []]) = .ok (.d (keyA (fst as) i)) (s ++ [.dct false [], .dct false []]) := fun i hi => key_ok (k := k) P (List.mem_range.mp hi)
  have hn : as.length ≤ 1000 := by omega
  have hbn := bnd_of (i := (as.length : Int)) (by omega) (by omega)
  have hsn : ((as.length : Int) ≤ sizeLine) = True := eq_true (by unfold sizeLine; omega)
  have hsn' : (as.length ≤ sizeLine) = True := eq_true (by unfold sizeLine; omega)
  have hq := sortA_ok (f := fst as) (v := .c 0 [.tuple (as.map askV)]) rfl hn hc
  clear hc
  walk_at "fx"
  refine for_inv (fun i ε s' => ∃ ps qs e4, ε = [some (.v (.d (.tuple (as.map askV)))), some (.v (.d (.int m))), some (.v (.o s.length)), some (.v (.o (s.length + 1))), e4] ∧ s' = s ++ [.dct false ps, .dct false qs] ∧ (∀ j : Nat, lookD ps (.int j) = (slt (fill (fst as) m as.length ((ord (keyA (fst as)) as.length).take i)) j).map .int) ∧ Cnt qs (us (fill (fst as) m as.length ((ord (keyA (fst as)) as.length).take i))) ∧ ps.length ≤ i ∧ qs.length ≤ i) ?_ ?_ ?_
  · rintro i x ε s1 hx ⟨ps, qs, e4, rfl, rfl, hps, hqs, hp1, hq1⟩
    rw [List.getElem?_map] at hx
    obtain ⟨w, hw, rfl⟩ := Option.map_eq_some_iff.mp hx
    clear hx
    have hxn := ord_lt hw
    have hin := (List.getElem?_eq_some_iff.mp hw).1
    rw [ord_len] at hin
    obtain ⟨y, f1, f2, -, f4, f5⟩ := step_fill (f := fst as) hm (n := as.length) (by rw [ord_len]; exact Nat.le_refl _) ord_nodup hw
    obtain ⟨a1, a2⟩ := ask_at hxn
    rw [a2] at f2 f4
    have hfree := free_ok (k := k) P (s := s ++ [.dct false ps, .dct false qs]) (t2 _ _) hqs f2 (by omega)
    have hlk : lookD (putD ps (.int (w : Int)) (.int y)) (.int (w : Int)) = some (.int y) := by rw [look_put, if_pos rfl]
    have hg := hqs.at_ y
    have hp2 : (ps.length < sizeLine) = True := eq_true (by unfold sizeLine; omega)
    have hq2 : (qs.length < sizeLine) = True := eq_true (by unfold sizeLine; omega)
    clear a2
    walk_at "fx"
    refine ⟨_, _, _, rfl, rfl, fun j => ?_, ⟨fun x => ?_⟩, Nat.le_trans (put_len _ _ _) (by omega), Nat.le_trans (put_len _ _ _) (by omega)⟩
    · rw [← f1, f5, look_put]
      by_cases e : j = w
      · subst e; rw [if_pos rfl, if_pos rfl]; rfl
      · rw [if_neg (by omega), if_neg e]
        exact hps j
    · rw [look_put, us_snoc]
      by_cases e : x = y
      · subst e; rw [if_pos rfl, if_pos rfl]; rfl
      · rw [if_neg e, if_neg (fun h => e h.symm)]
        exact hqs.at_ x
  · rintro ε s1 ⟨ps, qs, e4, rfl, rfl, hps, hqs, hp1, hq1⟩
    rw [List.length_map] at hps
    rw [List.take_of_length_le (by rw [ord_len]; exact Nat.le_refl _)] at hps
    have hrg := rngL_nat (n := as.length)
    clear hqs
    walk_at "fx"
    refine cat_map (V := fun (i : Nat) => PyData.int (i : Int)) (g := fun i => .int (slo as m i)) (fun i hi => ?_) ?_
    · have h2 := slo_eq (m := m) (List.mem_range.mp hi)
      unfold fil at h2
      have h1 : lookD ps (.int (i : Int)) = some (.int (slo as m i)) := by rw [hps i, h2]; rfl
      clear h2 hps
      walk_at "fx"
    · rw [List.length_map, List.length_range, if_pos (by unfold sizeLine; omega), fst_map]
      clear hps
      walk_at "fx"
      refine ⟨?_, _, rfl⟩
      unfold slots
      rw [List.map_map]
      rfl
  · refine ⟨[], [], _, rfl, rfl, fun j => rfl, ⟨fun x => rfl⟩, Nat.le_refl _, Nat.le_refl _⟩
end Fx

set_option Elab.async false
set_option linter.all false
set_option maxRecDepth 100000
set_option maxHeartbeats 4000000
/-! Fy14: the law's own filling. -/
namespace Fx
open PySem
local macro_rules | `(tactic| walk_at "fx") => `(tactic| simp only [fxS, fxE, fxV, fxW, fxM, fxI, fxJ, fxA, fxK, capD, beq_self_eq_true, Int.natCast_inj, Ev_ok, Ev_bind, at0, at1, at2, at3, atI_nat, List.map_cons, List.map_nil, List.length_cons, List.length_nil, List.length_map, List.length_set, List.set_set, List.replicate_succ, List.replicate_zero, List.cons_append, List.nil_append, List.getElem?_cons_zero, List.getElem?_cons_succ, List.set_cons_zero, List.set_cons_succ, Bool.false_eq_true, if_false, if_true, Bool.and_self, Bool.or_true, Bool.true_or, decide_true, decide_false, Bool.not_true, Bool.not_false, Bool.and_false, Bool.false_and, Nat.zero_min, Nat.reduceAdd, Nat.reduceSub, Int.reduceLT, Int.reduceLE, Nat.reduceLT, Nat.reduceLeDiff, reduceCtorEq, List.getElem?_nil, and_true, true_and, Nat.zero_le, Int.toNat_natCast, *])
variable {p : Prog} {k : Nat} {s : Sto}
theorem rep_flat (n : Nat) (x : PyData) : (List.replicate n [x]).flatten = (List.range n).map fun _ => x := by
  rw [List.flatten_replicate_singleton]
  rw [List.map_const', List.length_range]
theorem set_range {α : Type} {n j : Nat} {g g' : Nat → α} {v : α} (h : ∀ i, g' i = if i = j then v else g i) : ((List.range n).map g).set j v = (List.range n).map g' := by
  refine List.ext_getElem? fun i => ?_
  rw [List.getElem?_set]
  by_cases e : j = i
  · subst e
    rw [if_pos rfl, List.length_map, List.length_range]
    by_cases hj : j < n
    · rw [if_pos hj, List.getElem?_map, List.getElem?_range hj]
      show _ = some (g' j)
      rw [h j, if_pos rfl]
    · rw [if_neg hj, List.getElem?_eq_none (by rw [List.length_map, List.length_range]; omega)]
  · rw [if_neg e, List.getElem?_map, List.getElem?_map]
    cases hr : (List.range n)[i]? with
    | none => rfl
    | some x =>
      have := List.getElem?_eq_some_iff.mp hr
      obtain ⟨h1, h2⟩ := this
      rw [List.getElem_range] at h2
      subst h2
      show some (g i) = some (g' i)
      rw [h i, if_neg (fun h => e h.symm)]
theorem first_ok (P : P74 p) {as : List Ask} {m : Nat} (hA : Asks as) (hl : as.length ≤ 20) (hm : 1 ≤ m) :
    Ev ((tbl p (k + 1)).fn ("_law_first" : Str) [.d (.tuple (as.map askV)), .d (.int m)] s) fun v s' => v = .d (.tuple ((slots as m).map .int)) ∧ ∃ g, s' = s ++ g := by
  rw [call_fn P.law_first rfl]
  unfold i_law_first
  obtain ⟨t1, t2, t3, t4, t5, t6⟩ := two_at (s := s)
  have hn : as.length ≤ 1000 := by omega
  have hn1 : decide (0 ≤ (as.length : Int)) = true := decide_eq_true (by omega)
  have hn2 : decide ((as.length : Int) ≤ 1000) = true := decide_eq_true (by omega)
  have hn3 : decide (0 + 1 ≤ 1000) = true := decide_eq_true (by omega)
  have hbn := bnd_of (i := (as.length : Int)) (by omega) (by omega)
  have hsn : ((as.length : Int) ≤ sizeLine) = True := eq_true (by unfold sizeLine; omega)
  have hsn' : (as.length ≤ sizeLine) = True := eq_true (by unfold sizeLine; omega)
  have hs1 : (0 + 1 ≤ sizeLine) = True := eq_true (by unfold sizeLine; omega)
  have hs2 : (0 + 1 + 1 ≤ sizeLine) = True := eq_true (by unfold sizeLine; omega)
  have hrf := rep_flat as.length (.int 0)
  have hrg := rngL_nat (n := as.length)
  walk_at "fx"
  refine cat_map (V := fun (i : Nat) => PyData.int (i : Int)) (g := keyA (fst as)) (fun i hi => ?_) ?_
  · obtain ⟨h1, h2⟩ := ask_at (List.mem_range.mp hi)
    unfold keyA
    walk_at "fx"
  · rw [List.length_map, List.length_range, fst_map]
    have hk := keyA_ok (f := fst as) (n := as.length)
    have ho := sortD_ord (K := keyA (fst as)) (n := as.length)
    walk_at "fx"
    clear hk ho hrf hrg hn1 hn2 hn3
    refine for_inv (fun i ε s' => ∃ qs e4 e5 e6 e7, ε = [some (.v (.d (.tuple (as.map askV)))), some (.v (.d (.int m))), some (.v (.o s.length)), some (.v (.o (s.length + 1))), e4, e5, e6, e7] ∧ s' = s ++ [.lst ((List.range as.length).map fun j => .int ((slt (fill (fst as) m as.length ((ord (keyA (fst as)) as.length).take i)) j).getD 0)), .dct false qs] ∧ Cnt qs (us (fill (fst as) m as.length ((ord (keyA (fst as)) as.length).take i))) ∧ qs.length ≤ i) ?_ ?_ ?_
    · rintro i x ε s1 hx ⟨qs, e4, e5, e6, e7, rfl, rfl, hqs, hq1⟩
      rw [List.getElem?_map] at hx
      obtain ⟨w, hw, rfl⟩ := Option.map_eq_some_iff.mp hx
      clear hx
      have hwn := ord_lt hw
      have hin := (List.getElem?_eq_some_iff.mp hw).1
      rw [ord_len] at hin
      obtain ⟨y, f1, f2, f3, -, f5⟩ := step_fill (f := fst as) hm (n := as.length) (by rw [ord_len]; exact Nat.le_refl _) ord_nodup hw
      have hsr := set_range (n := as.length) (j := w) (g := fun j => PyData.int ((slt (fill (fst as) m as.length ((ord (keyA (fst as)) as.length).take i)) j).getD 0)) (v := .int y) (g' := fun j => PyData.int ((slt (fill (fst as) m as.length ((ord (keyA (fst as)) as.length).take (i + 1))) j).getD 0)) (fun j => by
        rw [f5]
        by_cases e : j = w
        · rw [if_pos e, if_pos e]; rfl
        · rw [if_neg e, if_neg e])
      have hcn : Cnt (putD qs (.int y) (.int ((us (fill (fst as) m as.length ((ord (keyA (fst as)) as.length).take i)) y : Int) + 1))) (us (fill (fst as) m as.length ((ord (keyA (fst as)) as.length).take (i + 1)))) := ⟨fun x => by
        rw [look_put, f1, us_snoc]
        by_cases e : x = y
        · subst e; rw [if_pos rfl, if_pos rfl]; rfl
        · rw [if_neg e, if_neg (fun h => e h.symm)]
          exact hqs.at_ x⟩
      clear f1 f2 f5
      generalize us (fill (fst as) m as.length ((ord (keyA (fst as)) as.length).take i)) = u at hqs f3 hcn
      generalize ((List.range as.length).map fun j => PyData.int ((slt (fill (fst as) m as.length ((ord (keyA (fst as)) as.length).take i)) j).getD 0)) = xs at hsr ⊢
      have hxl : xs.length = as.length := by
        have := congrArg List.length hsr
        rw [List.length_set, List.length_map, List.length_range] at this
        exact this
      have hix : L2.ixN as.length (w : Int) = some w := ixN_nat (by omega)
      have hkey : keyA (fst as) w = .tuple [.int (fst as w), .int (w : Int)] := rfl
      have hq2 : (qs.length < sizeLine) = True := eq_true (by unfold sizeLine; omega)
      clear hw hin
      walk_at "fx"
      refine for_inv (fun j ε s' => ∃ e7, ε = [some (.v (.d (.tuple (as.map askV)))), some (.v (.d (.int m))), some (.v (.o s.length)), some (.v (.o (s.length + 1))), some (.v (.d (.int (fst as w)))), some (.v (.d (.int w))), some (.v (.d (.int (itr u m j (fst as w))))), e7] ∧ s' = s ++ [.lst xs, .dct false qs]) ?_ ?_ ?_
      · rintro j x ε s1 hx ⟨e7, rfl, rfl⟩
        obtain ⟨rfl, hj⟩ := rngL_get hx
        have hg := hqs.at_ (itr u m j (fst as w))
        have hst : itr u m (j + 1) (fst as w) = itr u m j (fst as w) + (if decide ((m : Int) ≤ (u (itr u m j (fst as w)) : Int)) = true then 1 else 0) := by
          show stp u m _ = _
          unfold stp
          by_cases hf : m ≤ u (itr u m j (fst as w))
          · rw [if_pos hf, decide_eq_true (by omega), if_pos rfl]
          · rw [if_neg hf, decide_eq_false (by omega), if_neg (by decide)]
            omega
        clear hcn hsr
        walk_at "fx"
        exact ⟨_, rfl⟩
      · rintro ε s1 ⟨e7, rfl, rfl⟩
        rw [rngL_len]
        have hg := hqs.at_ y
        rw [← f3]
        clear f3
        walk_at "fx"
        exact ⟨_, _, _, _, _, rfl, rfl, hcn, Nat.le_trans (put_len _ _ _) (by omega)⟩
      · exact ⟨_, rfl, rfl⟩
    · rintro ε s1 ⟨qs, e4, e5, e6, e7, rfl, rfl, hqs, hq1⟩
      rw [List.length_map, List.take_of_length_le (Nat.le_refl _)]
      clear hqs hq1
      walk_at "fx"
      refine ⟨?_, _, rfl⟩
      unfold slots slo fil
      rw [List.map_map]
      rfl
    · exact ⟨[], _, _, _, _, rfl, rfl, ⟨fun x => rfl⟩, Nat.le_refl _⟩
end Fx

set_option Elab.async false
set_option linter.all false
set_option maxRecDepth 100000
set_option maxHeartbeats 4000000
/-! Fy15: what is told of fillings. -/
namespace Fx
open PySem
local macro_rules | `(tactic| walk_at "fx") => `(tactic| simp only [fxS, fxE, fxV, fxW, fxM, fxI, fxJ, fxA, fxK, capD, beq_self_eq_true, Int.natCast_inj, Ev_ok, Ev_bind, at0, at1, at2, at3, atI_nat, List.map_cons, List.map_nil, List.length_cons, List.length_nil, List.length_map, List.length_set, List.set_set, List.replicate_succ, List.replicate_zero, List.cons_append, List.nil_append, List.getElem?_cons_zero, List.getElem?_cons_succ, List.set_cons_zero, List.set_cons_succ, Bool.false_eq_true, if_false, if_true, Bool.and_self, Bool.or_true, Bool.true_or, decide_true, decide_false, Bool.not_true, Bool.not_false, Bool.and_false, Bool.false_and, Nat.zero_min, Nat.reduceAdd, Nat.reduceSub, Int.reduceLT, Int.reduceLE, Nat.reduceLT, Nat.reduceLeDiff, reduceCtorEq, List.getElem?_nil, and_true, true_and, Nat.zero_le, Int.toNat_natCast, *])
variable {p : Prog} {k : Nat} {s : Sto}
def lates (as : List Ask) (m : Nat) : List Int := (List.range as.length).map fun i => slo as m i - fst as i
theorem slots_len {as : List Ask} {m : Nat} : (slots as m).length = as.length := by
  unfold slots; rw [List.length_map, List.length_range]
theorem lates_zip {as : List Ask} {m : Nat} : (as.zip (slots as m)).map (fun q => q.2 - q.1.2.1) = lates as m := by
  refine List.ext_getElem? fun i => ?_
  unfold lates
  rw [List.getElem?_map, List.getElem?_map]
  by_cases hi : i < as.length
  · rw [List.getElem?_range hi]
    have h1 : as[i]? = some as[i] := List.getElem?_eq_getElem hi
    have h2 : (slots as m)[i]? = some (slo as m i) := by unfold slots; rw [List.getElem?_map, List.getElem?_range hi]; rfl
    have h3 : (as.zip (slots as m))[i]? = some (as[i], slo as m i) := by
      rw [List.getElem?_zip_eq_some]
      exact ⟨h1, h2⟩
    rw [h3]
    show some (slo as m i - as[i].2.1) = some (slo as m i - fst as i)
    rw [(ask_at hi).2]
  · rw [List.getElem?_eq_none (by rw [List.length_zip, slots_len]; omega), List.getElem?_eq_none (by rw [List.length_range]; omega)]
    rfl
theorem pair_asks {as : List Ask} {xs : List Int} : pairL (as.map askV) (xs.map PyData.int) = (as.zip xs).map fun q => .tuple [askV q.1, .int q.2] := by
  unfold pairL
  rw [List.zip_map, List.map_map]
  rfl
theorem lates_ok (P : P74 p) {as : List Ask} {m : Nat} (hl : as.length ≤ 20) : (tbl p (k + 1)).fn ("lates_of" : Str) [.d (.tuple (as.map askV)), .d (.list ((slots as m).map .int))] s = .ok (.d (.list ((lates as m).map .int))) s := by
  refine Ev.is (u := lk) ?_
  rw [call_fn P.lates_of rfl]
  unfold i_lates_of
  have hz := pair_asks (as := as) (xs := slots as m)
  have hzl : ((as.zip (slots as m)).length ≤ sizeLine) = True := eq_true (by rw [List.length_zip]; unfold sizeLine; omega)
  walk_at "fx"
  refine cat_map (V := fun q : Ask × Int => .tuple [askV q.1, .int q.2]) (g := fun q => .int (q.2 - q.1.2.1)) (fun q hq => ?_) ?_
  · clear hz hzl
    walk_at "fx"
  · rw [fst_map]
    have h1 := lates_zip (as := as) (m := m)
    rw [← h1, List.map_map]
    clear h1
    walk_at "fx"
    rfl
theorem filling_ok (P : P74 p) {as : List Ask} {m : Nat} (hA : Asks as) (h0 : 0 < as.length) (hl : as.length ≤ 20) (m1 : 1 ≤ m) (m2 : m ≤ 4) :
    Ev ((tbl p (k + 10)).fn ("first_filling" : Str) [.d (.tuple (as.map askV)), .d (.int m)] s) fun v s' => v = .d (.tuple ((slots as m).map .int)) ∧ ∃ g, s' = s ++ g := by
  rw [call_fn P.first_filling rfl]
  unfold i_first_filling
  have h1 := check_asked_ok (k := k) (s := s) P hA h0 hl (m := (m : Int)) (by omega) (by omega)
  walk_at "fx"
  refine (filled_ok (k := k + 7) P hA hl m1).go fun v s1 ⟨e, g, e2⟩ => ?_
  subst e e2
  walk_at "fx"
theorem sort_ints {xs : List Int} : (sortOk (xs.map PyData.int) && (xs.map PyData.int).all fun y => decide (y.depth ≤ 60)) = true := by
  rw [Bool.and_eq_true]
  constructor
  · unfold sortOk
    rw [Bool.and_eq_true, Bool.or_eq_true]
    refine ⟨?_, .inr ?_⟩
    · rw [List.all_eq_true]
      intro a ha
      rw [List.all_eq_true]
      intro b hb
      obtain ⟨i, _, rfl⟩ := List.mem_map.mp ha
      obtain ⟨j, _, rfl⟩ := List.mem_map.mp hb
      rfl
    · rw [List.all_eq_true]
      intro a ha
      obtain ⟨i, _, rfl⟩ := List.mem_map.mp ha
      rfl
  · rw [List.all_eq_true]
    intro a ha
    obtain ⟨i, _, rfl⟩ := List.mem_map.mp ha
    rfl
theorem used_ok (P : P74 p) {as : List Ask} {m : Nat} (hA : Asks as) (h0 : 0 < as.length) (hl : as.length ≤ 20) (m1 : 1 ≤ m) (m2 : m ≤ 4) :
    Ev ((tbl p (k + 10)).fn ("used" : Str) [.d (.tuple (as.map askV)), .d (.int m)] s) fun v s' => v = .d (.tuple (sortD ((slots as m).map .int))) ∧ ∃ g, s' = s ++ g := by
  rw [call_fn P.used rfl]
  unfold i_used
  have h1 := check_asked_ok (k := k) (s := s) P hA h0 hl (m := (m : Int)) (by omega) (by omega)
  have h2 := sort_ints (xs := slots as m)
  walk_at "fx"
  refine (filled_ok (k := k + 7) P hA hl m1).go fun v s1 ⟨e, g, e2⟩ => ?_
  subst e e2
  walk_at "fx"
theorem lateness_ok (P : P74 p) {as : List Ask} {m : Nat} (hA : Asks as) (h0 : 0 < as.length) (hl : as.length ≤ 20) (m1 : 1 ≤ m) (m2 : m ≤ 4) :
    Ev ((tbl p (k + 10)).fn ("lateness" : Str) [.d (.tuple (as.map askV)), .d (.int m)] s) fun v s' => v = .d (.int (lates as m).sum) ∧ ∃ g, s' = s ++ g := by
  rw [call_fn P.lateness rfl]
  unfold i_lateness
  have h1 := check_asked_ok (k := k) (s := s) P hA h0 hl (m := (m : Int)) (by omega) (by omega)
  walk_at "fx"
  refine (filled_ok (k := k + 7) P hA hl m1).go fun v s1 ⟨e, g, e2⟩ => ?_
  subst e e2
  have h2 := lates_ok (k := k + 8) (s := s ++ g) P (m := m) hl
  have h3 := ints_int (xs := lates as m)
  walk_at "fx"
theorem greatest_ok (P : P74 p) {as : List Ask} {m : Nat} (hA : Asks as) (h0 : 0 < as.length) (hl : as.length ≤ 20) (m1 : 1 ≤ m) (m2 : m ≤ 4) :
    Ev ((tbl p (k + 10)).fn ("greatest_late" : Str) [.d (.tuple (as.map askV)), .d (.int m)] s) fun v s' => (∃ a r, lates as m = a :: r ∧ v = .d (.int (maxI a r))) ∧ ∃ g, s' = s ++ g := by
  rw [call_fn P.greatest_late rfl]
  unfold i_greatest_late
  have h1 := check_asked_ok (k := k) (s := s) P hA h0 hl (m := (m : Int)) (by omega) (by omega)
  walk_at "fx"
  refine (filled_ok (k := k + 7) P hA hl m1).go fun v s1 ⟨e, g, e2⟩ => ?_
  subst e e2
  have h2 := lates_ok (k := k + 8) (s := s ++ g) P (m := m) hl
  have h3 := ints_int (xs := lates as m)
  have h4 : (lates as m).length = as.length := by unfold lates; rw [List.length_map, List.length_range]
  cases hla : lates as m with
  | nil => rw [hla] at h4; exact absurd h4 (by simp; omega)
  | cons a r =>
    rw [hla] at h2 h3
    rw [List.map_cons] at h3
    clear h4
    walk_at "fx"
    exact ⟨_, _, rfl, rfl⟩
end Fx

set_option Elab.async false
set_option linter.all false
set_option maxRecDepth 100000
set_option maxHeartbeats 4000000
/-! Fy16: a filling is a filling. -/
namespace Fx
open PySem
local macro_rules | `(tactic| walk_at "fx") => `(tactic| simp only [fxS, fxE, fxV, fxW, fxM, fxI, fxJ, fxA, fxK, capD, beq_self_eq_true, Int.natCast_inj, Ev_ok, Ev_bind, at0, at1, at2, at3, atI_nat, List.map_cons, List.map_nil, List.length_cons, List.length_nil, List.length_map, List.length_set, List.set_set, List.replicate_succ, List.replicate_zero, List.cons_append, List.nil_append, List.getElem?_cons_zero, List.getElem?_cons_succ, List.set_cons_zero, List.set_cons_succ, Bool.false_eq_true, if_false, if_true, Bool.and_self, Bool.or_true, Bool.true_or, decide_true, decide_false, Bool.not_true, Bool.not_false, Bool.and_false, Bool.false_and, Nat.zero_min, Nat.reduceAdd, Nat.reduceSub, Int.reduceLT, Int.reduceLE, Nat.reduceLT, Nat.reduceLeDiff, reduceCtorEq, List.getElem?_nil, and_true, true_and, Nat.zero_le, Int.toNat_natCast, *])
variable {p : Prog} {k : Nat} {s : Sto}
theorem slt_of {F : Fill} (hd : (F.map (·.1)).Nodup) {q : Nat × Int} (hq : q ∈ F) : slt F q.1 = some q.2 := by
  obtain ⟨y, hy⟩ := slt_some (acc := F) (j := q.1) (List.mem_map.mpr ⟨q, hq, rfl⟩)
  have hm := slt_mem hy
  obtain ⟨i, hi⟩ := List.mem_iff_getElem?.mp hq
  obtain ⟨j, hj⟩ := List.mem_iff_getElem?.mp hm
  obtain ⟨i1, i2⟩ := List.getElem?_eq_some_iff.mp hi
  obtain ⟨j1, j2⟩ := List.getElem?_eq_some_iff.mp hj
  have := (List.getElem_inj hd (i := i) (j := j) (h₀ := by rw [List.length_map]; exact i1) (h₁ := by rw [List.length_map]; exact j1)).mp (by rw [List.getElem_map, List.getElem_map, i2, j2])
  subst this
  rw [i2] at j2
  rw [hy, j2]
theorem fil_keys {as : List Ask} {m : Nat} : (fil as m).map (·.1) = ord (keyA (fst as)) as.length := fill_fst
def cn (as : List Ask) (m : Nat) (x : Int) : Nat := (slots as m).countP fun y => decide (y = x)
theorem cn_us {as : List Ask} {m : Nat} {x : Int} : us (fil as m) x = cn as m x := by
  have h1 : (fil as m).map (·.2) = (ord (keyA (fst as)) as.length).map (slo as m) := by
    rw [← fil_keys (m := m), List.map_map]
    refine List.map_congr_left fun q hq => ?_
    have := slt_of (by rw [fil_keys]; exact ord_nodup) hq
    show q.2 = slo as m q.1
    unfold slo
    rw [this]
    rfl
  have h2 : us (fil as m) x = ((fil as m).map (·.2)).countP fun y => decide (y = x) := by
    unfold us
    rw [List.countP_map]
    rfl
  rw [h2, h1]
  unfold cn slots
  exact (ord_perm.map _).countP_eq _
theorem cn_filter {as : List Ask} {m : Nat} {x : Int} : ((slots as m).filter fun y => decide (y = x)).length = cn as m x := List.countP_eq_length_filter.symm
structure Slot (as : List Ask) (m : Nat) (i : Nat) : Prop where
  ge : fst as i ≤ slo as m i
  up : slo as m i ≤ fst as i + as.length
  full : ∀ z, fst as i ≤ z → z < slo as m i → cn as m z = m
theorem slot_ok {as : List Ask} {m : Nat} (m1 : 1 ≤ m) : (∀ x, cn as m x ≤ m) ∧ ∀ i, i < as.length → Slot as m i := by
  have G : Good (fst as) m (fil as m) := (fill_good m1 (by rw [ord_len]; exact Nat.le_refl _)).1
  refine ⟨fun x => by rw [← cn_us]; exact G.le x, fun i hi => ?_⟩
  have hq := slt_mem (slo_eq (m := m) hi)
  have hl : (fil as m).length = as.length := by unfold fil; rw [fill_len, ord_len]
  refine ⟨G.ge _ hq, ?_, fun z h1 h2 => by rw [← cn_us]; exact G.full _ hq z h1 h2⟩
  have := G.up _ hq
  rw [hl] at this
  exact this
theorem fst_range {as : List Ask} (hA : Asks as) {i : Nat} (hi : i < as.length) : 0 ≤ fst as i ∧ fst as i ≤ 900 := by
  have h := hA.ok as[i] (List.getElem_mem hi)
  rw [(ask_at hi).2]
  exact ⟨h.lo, h.hi⟩
theorem zip_mem {as : List Ask} {m : Nat} {q : Ask × Int} (h : q ∈ as.zip (slots as m)) : ∃ i, i < as.length ∧ q.1.2.1 = fst as i ∧ q.2 = slo as m i := by
  obtain ⟨i, hi⟩ := List.mem_iff_getElem?.mp h
  obtain ⟨a, b⟩ := q
  rw [List.getElem?_zip_eq_some] at hi
  obtain ⟨i1, i2⟩ := List.getElem?_eq_some_iff.mp hi.1
  refine ⟨i, i1, ?_, ?_⟩
  · rw [(ask_at i1).2, i2]
  · have h2 : (slots as m)[i]? = some (slo as m i) := by unfold slots; rw [List.getElem?_map, List.getElem?_range i1]; rfl
    have h3 := hi.2
    rw [h2] at h3
    exact (Option.some.inj h3).symm
theorem slots_for_ok (P : P74 p) {as : List Ask} {m : Nat} (hl : as.length ≤ 20) (m1 : 1 ≤ m) : (tbl p (k + 3)).fn ("are_slots_for" : Str) [.d (.tuple (as.map askV)), .d (.tuple ((slots as m).map .int))] s = .ok (.d (.bool true)) s := by
  refine Ev.is (u := lk) ?_
  rw [call_fn P.are_slots_for rfl]
  unfold i_are_slots_for
  have h1 := tuple_ok (k := k + 1) (s := s) P (xs := (slots as m).map .int) (n := (as.length : Int)) (by rw [List.length_map, slots_len])
  have hz := pair_asks (as := as) (xs := slots as m)
  have hzl : ((as.zip (slots as m)).length ≤ sizeLine) = True := eq_true (by rw [List.length_zip]; unfold sizeLine; omega)
  walk_at "fx"
  refine cat_map (V := fun q : Ask × Int => .tuple [askV q.1, .int q.2]) (g := fun q => .bool true) (fun q hq => ?_) ?_
  · clear hz hzl h1
    obtain ⟨i, hi, e1, e2⟩ := zip_mem hq
    have h2 := number_ge (k := k) (s := s) P (i := q.2) (lo := q.1.2.1) (by rw [e1, e2]; exact ((slot_ok m1).2 i hi).ge)
    clear e1 e2 hq
    walk_at "fx"
  · rw [fst_map]
    have h2 := bools_map (b := fun _ : Ask × Int => true) (xs := as.zip (slots as m))
    have h3 := all_true (xs := as.zip (slots as m))
    walk_at "fx"
/-! ### a dict of counts -/
def cntD (c : Int → Nat) (xs : List Int) : List (PyData × PyData) := (xs.map fun x => (PyData.int x, PyData.int (c x))).foldl (fun acc p => putD acc p.1 p.2) []
theorem cntD_look {c : Int → Nat} {xs : List Int} {i : Int} : lookD (cntD c xs) (.int i) = if i ∈ xs then some (.int (c i)) else none := by
  suffices h : ∀ (xs : List Int) (acc : List (PyData × PyData)), lookD ((xs.map fun x => (PyData.int x, PyData.int (c x))).foldl (fun acc p => putD acc p.1 p.2) acc) (.int i) = if i ∈ xs then some (.int (c i)) else lookD acc (.int i) from h xs []
  intro xs
  induction xs with
  | nil => intro acc; rfl
  | cons x r ih =>
    intro acc
    rw [List.map_cons, List.foldl_cons, ih, look_put]
    by_cases h1 : i ∈ r
    · rw [if_pos h1, if_pos (List.mem_cons_of_mem _ h1)]
    · rw [if_neg h1]
      by_cases h2 : i = x
      · subst h2
        rw [if_pos rfl, if_pos List.mem_cons_self]
      · rw [if_neg h2, if_neg (by rw [List.mem_cons]; exact fun h => h.elim h2 h1)]
theorem cntD_mem {c : Int → Nat} {xs : List Int} : ∀ q ∈ cntD c xs, ∃ x, q.2 = .int (c x) := by
  suffices h : ∀ (xs : List Int) (acc : List (PyData × PyData)), (∀ q ∈ acc, ∃ x, q.2 = .int (c x)) → ∀ q ∈ (xs.map fun x => (PyData.int x, PyData.int (c x))).foldl (fun acc p => putD acc p.1 p.2) acc, ∃ x, q.2 = .int (c x) from h xs [] (fun _ h => (nomatch h))
  intro xs
  induction xs with
  | nil => intro acc h; exact h
  | cons x r ih =>
    intro acc h
    rw [List.map_cons, List.foldl_cons]
    refine ih _ fun q hq => ?_
    unfold putD at hq
    split at hq
    · obtain ⟨z, hz, rfl⟩ := List.mem_map.mp hq
      split
      · exact ⟨x, rfl⟩
      · exact h z hz
    · rw [List.mem_append, List.mem_singleton] at hq
      rcases hq with hq | rfl
      · exact h q hq
      · exact ⟨x, rfl⟩
theorem maxI_le {m : Int} : ∀ {r : List Int} {a : Int}, a ≤ m → (∀ y ∈ r, y ≤ m) → maxI a r ≤ m := by
  intro r
  induction r with
  | nil => intro a h _; exact h
  | cons y r ih =>
    intro a h1 h2
    show maxI (if y > a then y else a) r ≤ m
    refine ih ?_ fun z hz => h2 z (List.mem_cons_of_mem _ hz)
    split
    · exact h2 y List.mem_cons_self
    · exact h1
theorem ints_vals {c : Int → Nat} {m : Nat} (hm : ∀ x, c x ≤ m) : ∀ {ps : List (PyData × PyData)}, (∀ q ∈ ps, ∃ x, q.2 = .int (c x)) → ∃ ns, intsOf (ps.map (·.2)) = some ns ∧ ns.length = ps.length ∧ ∀ n ∈ ns, n ≤ (m : Int) := by
  intro ps
  induction ps with
  | nil => intro _; exact ⟨[], rfl, rfl, fun _ h => (nomatch h)⟩
  | cons q r ih =>
    intro h
    obtain ⟨ns, h1, h2, h3⟩ := ih fun z hz => h z (List.mem_cons_of_mem _ hz)
    obtain ⟨x, hx⟩ := h q List.mem_cons_self
    refine ⟨(c x : Int) :: ns, ?_, by simp [h2], fun n hn => ?_⟩
    · rw [List.map_cons, hx]
      show (intsOf (r.map (·.2))).map (_ :: ·) = _
      rw [h1]; rfl
    · rcases List.mem_cons.mp hn with rfl | hn
      · have := hm x; omega
      · exact h3 n hn
theorem cntD_max {c : Int → Nat} {m : Nat} (hm : ∀ x, c x ≤ m) {xs : List Int} (h0 : xs ≠ []) : ∃ a r, intsOf ((cntD c xs).map (·.2)) = some (a :: r) ∧ maxI a r ≤ (m : Int) := by
  obtain ⟨ns, h1, h2, h3⟩ := ints_vals hm (cntD_mem (c := c) (xs := xs))
  cases ns with
  | cons a r => exact ⟨a, r, h1, maxI_le (h3 a List.mem_cons_self) fun y hy => h3 y (List.mem_cons_of_mem _ hy)⟩
  | nil =>
    cases xs with
    | nil => exact absurd rfl h0
    | cons x r =>
      have := cntD_look (c := c) (xs := x :: r) (i := x)
      rw [if_pos List.mem_cons_self] at this
      have hl : cntD c (x :: r) = [] := List.length_eq_zero_iff.mp h2.symm
      rw [hl] at this
      cases this
theorem cntD_cnt {as : List Ask} {m : Nat} : Cnt (cntD (cn as m) (slots as m)) (cn as m) := ⟨fun x => by
  rw [cntD_look]
  by_cases h : x ∈ slots as m
  · rw [if_pos h]; rfl
  · rw [if_neg h]
    have : cn as m x = 0 := by
      unfold cn
      rw [List.countP_eq_zero]
      intro y hy
      simp only [decide_eq_true_eq]
      exact fun e => h (e ▸ hy)
    rw [this]
    rfl⟩
end Fx

set_option Elab.async false
set_option linter.all false
set_option maxRecDepth 100000
set_option maxHeartbeats 4000000
/-! Fy17: is_filling of a filling. -/
namespace Fx
open PySem
local macro_rules | `(tactic| walk_at "fx") => `(tactic| simp only [fxS, fxE, fxV, fxW, fxM, fxI, fxJ, fxA, fxK, capD, beq_self_eq_true, Int.natCast_inj, Ev_ok, Ev_bind, at0, at1, at2, at3, atI_nat, List.map_cons, List.map_nil, List.length_cons, List.length_nil, List.length_map, List.length_set, List.set_set, List.replicate_succ, List.replicate_zero, List.cons_append, List.nil_append, List.getElem?_cons_zero, List.getElem?_cons_succ, List.set_cons_zero, List.set_cons_succ, Bool.false_eq_true, if_false, if_true, Bool.and_self, Bool.or_true, Bool.true_or, decide_true, decide_false, Bool.not_true, Bool.not_false, Bool.and_false, Bool.false_and, Nat.zero_min, Nat.reduceAdd, Nat.reduceSub, Int.reduceLT, Int.reduceLE, Nat.reduceLT, Nat.reduceLeDiff, reduceCtorEq, List.getElem?_nil, and_true, true_and, Nat.zero_le, Int.toNat_natCast, *])
variable {p : Prog} {k : Nat} {s : Sto}
/-- the pairs of a walk are those of g -/
theorem cat_pairs {α : Type} {f : PyData → M (List (PyData × PyData))} {V : α → PyData} {g : α → PyData × PyData} {xs : List α} {s : Sto} {Q : List (PyData × PyData) → Sto → Prop} {u : Lk Q} (h : ∀ x ∈ xs, Ev (f (V x) s) fun ys s' => ys = [g x] ∧ s' = s) (hq : Q (xs.map g) s) : Ev (catL f none (xs.map V) s) Q u := by
  refine cat_inv (fun i acc s' => acc = (xs.take i).map g ∧ s' = s) (fun i x acc s' hx hi => ?_) (fun acc s' hi => ?_) ⟨rfl, rfl⟩
  · obtain ⟨rfl, rfl⟩ := hi
    rw [List.getElem?_map] at hx
    obtain ⟨a, ha, rfl⟩ := Option.map_eq_some_iff.mp hx
    refine (h a (List.mem_of_getElem? ha)).imp fun ys s'' hy => ?_
    obtain ⟨rfl, rfl⟩ := hy
    refine ⟨?_, rfl⟩
    rw [List.take_add_one, ha, List.map_append]
    rfl
  · obtain ⟨rfl, rfl⟩ := hi
    rw [List.length_map, List.take_length]
    exact hq
theorem app_at (a : Cel) : (s ++ [a])[s.length]? = some a := by
  rw [List.getElem?_append_right (Nat.le_refl _), Nat.sub_self]; rfl
theorem is_filled_ok (P : P74 p) {as : List Ask} {m : Nat} (hA : Asks as) (h0 : 0 < as.length) (hl : as.length ≤ 20) (m1 : 1 ≤ m) :
    Ev ((tbl p (k + 1)).fn ("is_filled" : Str) [.d (.tuple (as.map askV)), .d (.int m), .d (.tuple ((slots as m).map .int))] s) fun v s' => v = .d (.bool true) ∧ ∃ g, s' = s ++ g := by
  rw [call_fn P.is_filled rfl]
  unfold i_is_filled
  walk_at "fx"
  refine cat_pairs (V := PyData.int) (g := fun x => (.int x, .int (cn as m x))) (fun x hx => ?_) ?_
  · have hs1 : ((slots as m).length ≤ sizeLine) = True := eq_true (by rw [slots_len]; unfold sizeLine; omega)
    walk_at "fx"
    refine cat_fil (V := PyData.int) (c := fun y => decide (y = x)) (g := PyData.int) (fun y hy => ?_) ?_
    · by_cases e : y = x
      · walk_at "fx"
      · have e2 : (y = x) = False := eq_false e
        walk_at "fx"
    · have h1 : (((slots as m).filter fun y => decide (y = x)).length ≤ sizeLine) = True := eq_true (by rw [cn_filter]; have := (slot_ok (as := as) m1).1 x; unfold cn at *; have h2 := List.countP_le_length (p := fun y => decide (y = x)) (l := slots as m); rw [slots_len] at h2; unfold sizeLine; omega)
      have h2 := cn_filter (as := as) (m := m) (x := x)
      rw [h2] at h1
      walk_at "fx"
  · have hfold : (((slots as m).map fun x => (PyData.int x, PyData.int (cn as m x : Int))).foldl (fun acc p => putD acc p.1 p.2) []) = cntD (cn as m) (slots as m) := rfl
    have hs1 : ((slots as m).length ≤ sizeLine) = True := eq_true (by rw [slots_len]; unfold sizeLine; omega)
    obtain ⟨a, r, hmx, hle⟩ := cntD_max (c := cn as m) (m := m) (slot_ok m1).1 (xs := slots as m) (fun e => by have := slots_len (as := as) (m := m); rw [e] at this; rw [List.length_nil] at this; omega)
    have hgt : ((m : Int) < maxI a r) = False := by simp; omega
    have happ := app_at (s := s) (.dct false (cntD (cn as m) (slots as m)))
    have hz := pair_asks (as := as) (xs := slots as m)
    walk_at "fx"
    refine for_inv (fun i ε s' => (∃ e4 e5 e6 e7, ε = [some (.v (.d (.tuple (as.map askV)))), some (.v (.d (.int m))), some (.v (.d (.tuple ((slots as m).map .int)))), some (.v (.o s.length)), e4, e5, e6, e7]) ∧ s' = s ++ [.dct false (cntD (cn as m) (slots as m))]) ?_ ?_ ?_
    · rintro i x ε s1 hx ⟨⟨e4, e5, e6, e7, rfl⟩, rfl⟩
      clear hfold hs1 hmx hle hgt hz
      rw [List.getElem?_map] at hx
      obtain ⟨q, hq, rfl⟩ := Option.map_eq_some_iff.mp hx
      clear hx
      obtain ⟨j, hj, e1, e2⟩ := zip_mem (List.mem_of_getElem? hq)
      clear hq
      obtain ⟨⟨z, f, la⟩, sl⟩ := q
      have e1 : f = fst as j := e1
      have e2 : sl = slo as m j := e2
      have S := (slot_ok m1).2 j hj
      have F := fst_range hA hj
      rw [← e1] at F
      have s1 := S.ge
      have s2 := S.up
      have s3 := S.full
      rw [← e1, ← e2] at s1 s2 s3
      clear e1 e2 S
      have b1 := bnd_of (i := f) (by omega) (by omega)
      have b2 := bnd_of (i := sl) (by omega) (by omega)
      have b3 : (sl - f ≤ sizeLine) = True := eq_true (by unfold sizeLine; omega)
      have b4 : (f + (as.length : Int) + 1 < sl) = False := by simp; omega
      have hrg : rngL f (sl - f).toNat 1 = (List.range (sl - f).toNat).map fun (i : Nat) => PyData.int (f + (i : Int)) := by
        unfold rngL
        refine List.map_congr_left fun i _ => ?_
        rw [Int.mul_one]
      walk_at "fx"
      refine cat_map (V := fun (i : Nat) => PyData.int (f + (i : Int))) (g := fun _ => .bool true) (fun i hi => ?_) ?_
      · have hi := List.mem_range.mp hi
        have hg := (cntD_cnt (as := as) (m := m)).at_ (f + (i : Int))
        rw [s3 (f + (i : Int)) (by omega) (by omega)] at hg
        clear b1 b2 b3 b4 hrg s3
        walk_at "fx"
      · have h1 : ((List.range (sl - f).toNat).length ≤ sizeLine) = True := eq_true (by rw [List.length_range]; unfold sizeLine; omega)
        rw [fst_map]
        have h2 := bools_map (b := fun _ : Nat => true) (xs := List.range (sl - f).toNat)
        have h3 := all_true (xs := List.range (sl - f).toNat)
        clear b1 b2 b3 b4 hrg s3
        walk_at "fx"
        exact ⟨_, _, _, _, rfl⟩
    · rintro ε s1 ⟨⟨e4, e5, e6, e7, rfl⟩, rfl⟩
      walk_at "fx"
      exact ⟨_, rfl⟩
    · exact ⟨⟨_, _, _, _, rfl⟩, rfl⟩
theorem is_filling_ok (P : P74 p) {as : List Ask} {m : Nat} (hA : Asks as) (h0 : 0 < as.length) (hl : as.length ≤ 20) (m1 : 1 ≤ m) (m2 : m ≤ 4) :
    Ev ((tbl p (k + 10)).fn ("is_filling" : Str) [.d (.tuple (as.map askV)), .d (.int m), .d (.tuple ((slots as m).map .int))] s) fun v s' => v = .d (.bool true) ∧ ∃ g, s' = s ++ g := by
  rw [call_fn P.is_filling rfl]
  unfold i_is_filling
  have h1 := check_asked_ok (k := k) (s := s) P hA h0 hl (m := (m : Int)) (by omega) (by omega)
  have h2 := slots_for_ok (k := k + 6) (s := s) P hl m1
  walk_at "fx"
  refine (is_filled_ok (k := k + 8) P hA h0 hl m1).go fun v s1 ⟨e, g, e2⟩ => ?_
  subst e e2
  walk_at "fx"
end Fx

set_option Elab.async false
set_option linter.all false
set_option maxRecDepth 100000
set_option maxHeartbeats 4000000
/-! Fy18: the asks that are on time. -/
namespace Fx
open PySem
local macro_rules | `(tactic| walk_at "fx") => `(tactic| simp only [fxS, fxE, fxV, fxW, fxM, fxI, fxJ, fxA, fxK, capD, beq_self_eq_true, Int.natCast_inj, Ev_ok, Ev_bind, at0, at1, at2, at3, atI_nat, List.map_cons, List.map_nil, List.length_cons, List.length_nil, List.length_map, List.length_set, List.set_set, List.replicate_succ, List.replicate_zero, List.cons_append, List.nil_append, List.getElem?_cons_zero, List.getElem?_cons_succ, List.set_cons_zero, List.set_cons_succ, Bool.false_eq_true, if_false, if_true, Bool.and_self, Bool.or_true, Bool.true_or, decide_true, decide_false, Bool.not_true, Bool.not_false, Bool.and_false, Bool.false_and, Nat.zero_min, Nat.reduceAdd, Nat.reduceSub, Int.reduceLT, Int.reduceLE, Nat.reduceLT, Nat.reduceLeDiff, reduceCtorEq, List.getElem?_nil, and_true, true_and, Nat.zero_le, Int.toNat_natCast, *])
variable {p : Prog} {k : Nat} {s : Sto}
theorem insJ_mem {x y : Int} : ∀ {l : List Int}, y ∈ insI x l ↔ y = x ∨ y ∈ l := by
  intro l
  induction l with
  | nil => simp [insI]
  | cons z l ih =>
    unfold insI
    by_cases h1 : x < z
    · rw [if_pos h1, List.mem_cons]
    · rw [if_neg h1]
      by_cases h2 : x = z
      · rw [if_pos h2]; subst h2; simp
      · rw [if_neg h2, List.mem_cons, ih, List.mem_cons]
        exact ⟨fun h => h.elim (fun h => .inr (.inl h)) (fun h => h.elim .inl (fun h => .inr (.inr h))), fun h => h.elim (fun h => .inr (.inl h)) (fun h => h.elim .inl (fun h => .inr (.inr h)))⟩
theorem insJ_sorted {x : Int} {l : List Int} : l.Pairwise (· < ·) → (insI x l).Pairwise (· < ·) := by
  induction l with
  | nil => intro _; simp [insI]
  | cons z l ih =>
    intro h
    have h1 := (List.pairwise_cons.mp h).1
    unfold insI
    by_cases e1 : x < z
    · rw [if_pos e1]
      refine List.pairwise_cons.mpr ⟨fun y hy => ?_, h⟩
      rcases List.mem_cons.mp hy with rfl | hy
      · exact e1
      · exact Int.lt_trans e1 (h1 y hy)
    · rw [if_neg e1]
      by_cases e2 : x = z
      · rw [if_pos e2]; exact h
      · rw [if_neg e2]
        refine List.pairwise_cons.mpr ⟨fun y hy => ?_, ih (List.pairwise_cons.mp h).2⟩
        rcases insJ_mem.mp hy with rfl | hy
        · omega
        · exact h1 y hy
theorem setJ_mem {y : Int} {ns : List Int} : y ∈ setI ns ↔ y ∈ ns := by
  induction ns with
  | nil => exact Iff.rfl
  | cons n r ih =>
    show y ∈ insI n (setI r) ↔ _
    rw [insJ_mem, ih, List.mem_cons]
theorem setJ_nodup {ns : List Int} : (setI ns).Nodup := by
  have h : (setI ns).Pairwise (· < ·) := by
    induction ns with
    | nil => exact List.Pairwise.nil
    | cons n r ih => exact insJ_sorted ih
  exact h.imp fun h => by omega
theorem sum_keep {g : Int → Nat} {c : Int → Bool} : ∀ {A : List Int}, (∀ x ∈ A, c x = false → g x = 0) → (A.map g).sum = ((A.filter c).map g).sum := by
  intro A
  induction A with
  | nil => intro _; rfl
  | cons x r ih =>
    intro h
    have h1 := ih fun y hy => h y (List.mem_cons_of_mem _ hy)
    cases hc : c x with
    | true => rw [List.filter_cons_of_pos hc, List.map_cons, List.map_cons, List.sum_cons, List.sum_cons, h1]
    | false => rw [List.filter_cons_of_neg (by simp [hc]), List.map_cons, List.sum_cons, h x List.mem_cons_self hc, h1, Nat.zero_add]
theorem sum_same {g : Int → Nat} {A B : List Int} (hA : A.Nodup) (hB : B.Nodup) (h1 : ∀ x, x ∉ A → g x = 0) (h2 : ∀ x, x ∉ B → g x = 0) : (A.map g).sum = (B.map g).sum := by
  rw [sum_keep (c := fun x => decide (x ∈ B)) (A := A) (fun x _ h => h2 x (of_decide_eq_false h)), sum_keep (c := fun x => decide (x ∈ A)) (A := B) (fun x _ h => h1 x (of_decide_eq_false h))]
  refine (List.Perm.map g ?_).sum_nat
  refine (List.perm_ext_iff_of_nodup (hA.sublist List.filter_sublist) (hB.sublist List.filter_sublist)).mpr fun x => ?_
  rw [List.mem_filter, List.mem_filter]
  simp only [decide_eq_true_eq]
  exact And.comm
/-- how many asks want x -/
def firsts (as : List Ask) : List Int := as.map (·.2.1)
def cf (as : List Ask) (x : Int) : Nat := (firsts as).countP fun y => decide (y = x)
theorem firsts_range {as : List Ask} : firsts as = (List.range as.length).map (fst as) := by
  refine List.ext_getElem? fun i => ?_
  unfold firsts
  rw [List.getElem?_map, List.getElem?_map]
  by_cases hi : i < as.length
  · rw [List.getElem?_range hi, List.getElem?_eq_getElem hi]
    show some _ = some _
    rw [(ask_at hi).2]
  · rw [List.getElem?_eq_none (by omega), List.getElem?_eq_none (by rw [List.length_range]; omega)]
    rfl
theorem cf_cn {as : List Ask} {m : Nat} (m1 : 1 ≤ m) {x : Int} : min (cn as m x) (cf as x) = min m (cf as x) := by
  have h := slot_ok (as := as) m1
  have hle := h.1 x
  by_cases hm : cn as m x = m
  · rw [hm]
  · have : cf as x ≤ cn as m x := by
      unfold cf cn
      rw [firsts_range]
      unfold slots
      rw [List.countP_map, List.countP_map]
      refine List.countP_mono_left fun i hi e => ?_
      have hi := List.mem_range.mp hi
      have e : fst as i = x := of_decide_eq_true e
      have S := h.2 i hi
      show decide (slo as m i = x) = true
      refine decide_eq_true ?_
      rcases Int.lt_or_eq_of_le S.ge with h1 | h1
      · exact absurd (S.full x (by omega) (by omega)) hm
      · omega
    omega
def onTime (as : List Ask) (m : Nat) : Nat := ((setI (firsts as)).map fun x => min m (cf as x)).sum
theorem onTime_slots {as : List Ask} {m : Nat} (m1 : 1 ≤ m) : ((setI (slots as m)).map fun x => min (cn as m x) (cf as x)).sum = onTime as m := by
  unfold onTime
  have e : (fun x => min m (cf as x)) = fun x => min (cn as m x) (cf as x) := funext fun x => (cf_cn m1).symm
  rw [e]
  refine sum_same setJ_nodup setJ_nodup (fun x hx => ?_) (fun x hx => ?_)
  · rw [setJ_mem] at hx
    have : cn as m x = 0 := by
      unfold cn
      rw [List.countP_eq_zero]
      intro y hy
      simp only [decide_eq_true_eq]
      exact fun e => hx (e ▸ hy)
    omega
  · rw [setJ_mem] at hx
    have : cf as x = 0 := by
      unfold cf
      rw [List.countP_eq_zero]
      intro y hy
      simp only [decide_eq_true_eq]
      exact fun e => hx (e ▸ hy)
    omega
theorem cf_filter {as : List Ask} {x : Int} : (as.filter fun a => decide (a.2.1 = x)).length = cf as x := by
  unfold cf firsts
  rw [List.countP_map, List.countP_eq_length_filter]
  rfl
theorem count_int {ns : List Int} {x : Int} : ((ns.map PyData.int).countP fun z => PyData.eqv z (.int x)) = ns.countP fun y => decide (y = x) := by
  rw [List.countP_map]
  congr 1
theorem min_cast {a b : Nat} : (if (b : Int) < (a : Int) then (b : Int) else (a : Int)) = ((min a b : Nat) : Int) := by
  by_cases h : (b : Int) < (a : Int)
  · rw [if_pos h, Nat.min_eq_right (by omega)]
  · rw [if_neg h, Nat.min_eq_left (by omega)]
theorem sum_cast {g : Int → Nat} {xs : List Int} : (xs.map fun x => ((g x : Nat) : Int)).sum = (((xs.map g).sum : Nat) : Int) := by
  induction xs with
  | nil => rfl
  | cons x r ih =>
    rw [List.map_cons, List.map_cons, List.sum_cons, List.sum_cons, ih]
    exact (Int.natCast_add _ _).symm
theorem insJ_len {x : Int} : ∀ {l : List Int}, (insI x l).length ≤ l.length + 1 := by
  intro l
  induction l with
  | nil => exact Nat.le_refl _
  | cons z l ih =>
    unfold insI
    split
    · exact Nat.le_refl _
    · split
      · exact Nat.le_succ _
      · exact Nat.succ_le_succ ih
theorem setJ_len {ns : List Int} : (setI ns).length ≤ ns.length := by
  induction ns with
  | nil => exact Nat.le_refl _
  | cons n r ih =>
    show (insI n (setI r)).length ≤ _
    exact Nat.le_trans insJ_len (Nat.succ_le_succ ih)
theorem most_ok (P : P74 p) {as : List Ask} {m : Nat} (hA : Asks as) (h0 : 0 < as.length) (hl : as.length ≤ 20) (m1 : 1 ≤ m) (m2 : m ≤ 4) :
    (tbl p (k + 10)).fn ("most_on_time" : Str) [.d (.tuple (as.map askV)), .d (.int m)] s = .ok (.d (.int (onTime as m))) s := by
  refine Ev.is (u := lk) ?_
  rw [call_fn P.most_on_time rfl]
  unfold i_most_on_time
  have h1 := check_asked_ok (k := k) (s := s) P hA h0 hl (m := (m : Int)) (by omega) (by omega)
  have hl2 : (as.length ≤ sizeLine) = True := eq_true (by unfold sizeLine; omega)
  walk_at "fx"
  refine cat_map (V := askV) (g := fun a => .int a.2.1) (fun a ha => ?_) ?_
  · unfold askV
    clear h1
    walk_at "fx"
  · rw [fst_map]
    have h3 : (as.map fun a => PyData.int a.2.1) = (firsts as).map .int := by unfold firsts; rw [List.map_map]; rfl
    have h4 := ints_int (xs := firsts as)
    have h5 : (as.length < 64) = True := eq_true (by omega)
    have h6 : (firsts as).length = as.length := by unfold firsts; rw [List.length_map]
    clear h1
    walk_at "fx"
    refine cat_map (V := PyData.int) (g := fun x => .int ((min m (cf as x) : Nat) : Int)) (fun x hx => ?_) ?_
    · have g1 : ((firsts as).map PyData.int).countP (fun z => PyData.eqv z (.int x)) = cf as x := count_int
      have g2 := min_cast (a := m) (b := cf as x)
      have g3 : findOk (.int x) = true := rfl
      clear h3 h4 h5 h6
      rw [← g2]
      clear g2
      walk_at "fx"
    · have g1 : ((setI (firsts as)).length ≤ sizeLine) = True := eq_true (by have := setJ_len (ns := firsts as); unfold sizeLine; omega)
      have g2 := ints_map (b := fun x => ((min m (cf as x) : Nat) : Int)) (xs := setI (firsts as))
      have g3 : ((setI (firsts as)).map fun x => ((min m (cf as x) : Nat) : Int)).sum = (onTime as m : Int) := sum_cast
      rw [fst_map]
      clear h3 h4 h5 h6
      walk_at "fx"
theorem law_on_time_ok (P : P74 p) {as : List Ask} {m : Nat} (hl : as.length ≤ 20) (m1 : 1 ≤ m) :
    (tbl p (k + 1)).fn ("_law_on_time" : Str) [.d (.tuple (as.map askV)), .d (.tuple ((slots as m).map .int))] s = .ok (.d (.int (onTime as m))) s := by
  refine Ev.is (u := lk) ?_
  rw [call_fn P.law_on_time rfl]
  unfold i_law_on_time
  have h4 := ints_int (xs := slots as m)
  have h5 : (as.length < 64) = True := eq_true (by omega)
  have h6 := slots_len (as := as) (m := m)
  walk_at "fx"
  refine for_inv (fun i ε s' => ∃ e3 e4 e5 e6, ε = [some (.v (.d (.tuple (as.map askV)))), some (.v (.d (.tuple ((slots as m).map .int)))), some (.v (.d (.int (((((setI (slots as m)).take i).map fun x => min (cn as m x) (cf as x)).sum : Nat) : Int)))), e3, e4, e5, e6] ∧ s' = s) ?_ ?_ ?_
  · rintro i x ε s1 hx ⟨e3, e4, e5, e6, rfl, rfl⟩
    rw [List.getElem?_map] at hx
    obtain ⟨x, hx', rfl⟩ := Option.map_eq_some_iff.mp hx
    clear hx h4 h5 h6
    walk_at "fx"
    refine cat_fil (V := PyData.int) (c := fun y => decide (y = x)) (g := PyData.int) (fun y hy => ?_) ?_
    · by_cases e : y = x
      · walk_at "fx"
      · have e2 : (y = x) = False := eq_false e
        walk_at "fx"
    · have h1 : (((slots as m).filter fun y => decide (y = x)).length ≤ sizeLine) = True := eq_true (by have h2 := List.length_filter_le (fun y => decide (y = x)) (slots as m); rw [slots_len] at h2; unfold sizeLine; omega)
      have h2 := cn_filter (as := as) (m := m) (x := x)
      rw [h2] at h1
      walk_at "fx"
      refine cat_fil (V := askV) (c := fun a => decide (a.2.1 = x)) (g := askV) (fun a ha => ?_) ?_
      · by_cases e : a.2.1 = x
        · walk_at "fx"
        · have e2 : (a.2.1 = x) = False := eq_false e
          walk_at "fx"
      · have h3 : ((as.filter fun a => decide (a.2.1 = x)).length ≤ sizeLine) = True := eq_true (by have h2 := List.length_filter_le (fun a : Ask => decide (a.2.1 = x)) as; unfold sizeLine; omega)
        have h4 := cf_filter (as := as) (x := x)
        rw [h4] at h3
        have h5 := min_cast (a := cn as m x) (b := cf as x)
        walk_at "fx"
        have h6 : ((((setI (slots as m)).take (i + 1)).map fun x => min (cn as m x) (cf as x)).sum : Int) = (((((setI (slots as m)).take i).map fun x => min (cn as m x) (cf as x)).sum : Nat) : Int) + ((min (cn as m x) (cf as x) : Nat) : Int) := by
          rw [List.take_add_one, hx', List.map_append, List.sum_append]
          simp
        rw [h6]
        exact ⟨_, _, _, _, rfl⟩
  · rintro ε s1 ⟨e3, e4, e5, e6, rfl, rfl⟩
    rw [List.length_map, List.take_length, onTime_slots m1]
    walk_at "fx"
  · exact ⟨_, _, _, _, rfl, rfl⟩
end Fx

set_option Elab.async false
set_option linter.all false
set_option maxRecDepth 100000
set_option maxHeartbeats 4000000
/-! Fy19: what repr may be asked of. -/
namespace Fx
open PySem
/-- small data: it can be shown, its weight, its depth -/
structure Sm (d : PyData) (w h : Nat) : Prop where
  sh : d.showable = true
  lv : d.leavesShort 13 = true
  wt : d.weight ≤ w
  dp : d.depth ≤ h
theorem sm_int {i : Int} (hi : i.natAbs < 10 ^ 12) : Sm (.int i) 40 0 where
  sh := by
    refine decide_eq_true ?_
    by_cases h0 : i.natAbs = 0
    · rw [h0]; decide
    · have := (Nat.log2_lt h0 (k := 1920)).mpr (Nat.lt_of_lt_of_le hi (by decide))
      exact this
  lv := decide_eq_true (PyData.shown_int_le hi)
  wt := by
    show (if i == 0 then 0 else i.natAbs.log2 + 1) ≤ 40
    by_cases h0 : i.natAbs = 0
    · have : i = 0 := by omega
      subst this
      decide
    · have := (Nat.log2_lt h0 (k := 40)).mpr (Nat.lt_of_lt_of_le hi (by decide))
      split <;> omega
  dp := Nat.le_refl _
theorem sm_bool {b : Bool} : Sm (.bool b) 40 0 := ⟨rfl, rfl, Nat.zero_le _, Nat.le_refl _⟩
theorem Sm.mono {d : PyData} {w h w' h' : Nat} (a : Sm d w h) (b : w ≤ w') (c : h ≤ h') : Sm d w' h' := ⟨a.sh, a.lv, Nat.le_trans a.wt b, Nat.le_trans a.dp c⟩
theorem sm_all {w h : Nat} : ∀ {xs : List PyData}, (∀ x ∈ xs, Sm x w h) → PyData.showableAll xs = true ∧ PyData.leavesShortAll 13 xs = true ∧ PyData.weightAll xs ≤ (w + 1) * xs.length ∧ PyData.depthAll xs ≤ h := by
  intro xs
  induction xs with
  | nil => intro _; exact ⟨rfl, rfl, Nat.le_refl _, Nat.zero_le _⟩
  | cons x r ih =>
    intro hx
    obtain ⟨h1, h2, h3, h4⟩ := ih fun y hy => hx y (List.mem_cons_of_mem _ hy)
    have a := hx x List.mem_cons_self
    refine ⟨?_, ?_, ?_, ?_⟩
    · show (x.showable && PyData.showableAll r) = true
      rw [a.sh, h1]; rfl
    · show (x.leavesShort 13 && PyData.leavesShortAll 13 r) = true
      rw [a.lv, h2]; rfl
    · show x.weight + 1 + PyData.weightAll r ≤ _
      have := a.wt
      rw [List.length_cons, Nat.mul_succ]
      omega
    · show max x.depth (PyData.depthAll r) ≤ h
      have := a.dp
      omega
theorem sm_tuple {w h : Nat} {xs : List PyData} (hx : ∀ x ∈ xs, Sm x w h) : Sm (.tuple xs) ((w + 1) * xs.length) (h + 1) := by
  obtain ⟨h1, h2, h3, h4⟩ := sm_all hx
  refine ⟨h1, h2, h3, ?_⟩
  show PyData.depthAll xs + 1 ≤ _
  omega
theorem sm_list {w h : Nat} {xs : List PyData} (hx : ∀ x ∈ xs, Sm x w h) : Sm (.list xs) ((w + 1) * xs.length) (h + 1) := by
  obtain ⟨h1, h2, h3, h4⟩ := sm_all hx
  refine ⟨h1, h2, h3, ?_⟩
  show PyData.depthAll xs + 1 ≤ _
  omega
theorem Sm.rep {w h : Nat} {xs : List PyData} (a : Sm (.list xs) w h) (hw : w ≤ 2 ^ 20) (hh : h ≤ 60) : repOk (.list xs) = true := by
  unfold repOk
  rw [a.sh, decide_eq_true (Nat.le_trans a.dp hh), decide_eq_true (PyData.shown_fits (B := 13) (by decide) (by decide) a.lv (Nat.le_trans a.wt hw))]
  rfl
/-- a list of two small ones -/
theorem rep_two {x : PyData} {w h : Nat} (a : Sm x w h) (hw : (w + 1) * 2 ≤ 2 ^ 20) (hh : h < 60) : repOk (.list [x, x]) = true := by
  have : Sm (.list [x, x]) ((w + 1) * 2) (h + 1) := sm_list fun y hy => by
    simp only [List.mem_cons, List.mem_nil_iff, or_false, or_self] at hy
    subst hy
    exact a
  exact this.rep hw hh
/-! ### the figures of a filling are small -/
theorem slots_small {as : List Ask} {m : Nat} (hA : Asks as) (hl : as.length ≤ 20) (m1 : 1 ≤ m) : ∀ x ∈ slots as m, 0 ≤ x ∧ x ≤ 920 := by
  intro x hx
  obtain ⟨i, hi, rfl⟩ := List.mem_map.mp hx
  have hi := List.mem_range.mp hi
  have S := (slot_ok (as := as) m1).2 i hi
  have F := fst_range hA hi
  have := S.ge
  have := S.up
  omega
theorem lates_small {as : List Ask} {m : Nat} (hl : as.length ≤ 20) (m1 : 1 ≤ m) : ∀ x ∈ lates as m, 0 ≤ x ∧ x ≤ 20 := by
  intro x hx
  obtain ⟨i, hi, rfl⟩ := List.mem_map.mp hx
  have hi := List.mem_range.mp hi
  have S := (slot_ok (as := as) m1).2 i hi
  have := S.ge
  have := S.up
  omega
theorem sum_small {c : Int} : ∀ {xs : List Int}, (∀ x ∈ xs, 0 ≤ x ∧ x ≤ c) → 0 ≤ xs.sum ∧ xs.sum ≤ c * xs.length := by
  intro xs
  induction xs with
  | nil => intro _; simp
  | cons x r ih =>
    intro h
    have h1 := ih fun y hy => h y (List.mem_cons_of_mem _ hy)
    have h2 := h x List.mem_cons_self
    rw [List.sum_cons, List.length_cons, Int.natCast_succ, Int.mul_add, Int.mul_one]
    omega
theorem sumN_small {c : Nat} : ∀ {xs : List Nat}, (∀ x ∈ xs, x ≤ c) → xs.sum ≤ c * xs.length := by
  intro xs
  induction xs with
  | nil => intro _; simp
  | cons x r ih =>
    intro h
    have h1 := ih fun y hy => h y (List.mem_cons_of_mem _ hy)
    have h2 := h x List.mem_cons_self
    rw [List.sum_cons, List.length_cons, Nat.mul_succ]
    omega
theorem onTime_small {as : List Ask} {m : Nat} (hl : as.length ≤ 20) (m2 : m ≤ 4) : onTime as m ≤ 80 := by
  unfold onTime
  have h := sumN_small (c := m) (xs := (setI (firsts as)).map fun x => min m (cf as x)) (fun x hx => by
    obtain ⟨y, _, rfl⟩ := List.mem_map.mp hx
    exact Nat.min_le_left _ _)
  have h2 := setJ_len (ns := firsts as)
  have h3 : (firsts as).length = as.length := by unfold firsts; rw [List.length_map]
  rw [List.length_map] at h
  have h4 : m * (setI (firsts as)).length ≤ 4 * 20 := Nat.mul_le_mul m2 (by omega)
  omega
theorem maxI_small {c : Int} : ∀ {r : List Int} {a : Int}, (0 ≤ a ∧ a ≤ c) → (∀ y ∈ r, 0 ≤ y ∧ y ≤ c) → 0 ≤ maxI a r ∧ maxI a r ≤ c := by
  intro r
  induction r with
  | nil => intro a h _; exact h
  | cons y r ih =>
    intro a h1 h2
    show 0 ≤ maxI (if y > a then y else a) r ∧ maxI (if y > a then y else a) r ≤ c
    refine ih ?_ fun z hz => h2 z (List.mem_cons_of_mem _ hz)
    split
    · exact h2 y List.mem_cons_self
    · exact h1
theorem sm_ints {xs : List Int} (h : ∀ x ∈ xs, 0 ≤ x ∧ x ≤ 920) : Sm (.tuple (xs.map .int)) (41 * xs.length) 1 := by
  have := sm_tuple (w := 40) (h := 0) (xs := xs.map PyData.int) fun x hx => by
    obtain ⟨i, hi, rfl⟩ := List.mem_map.mp hx
    have := h i hi
    exact sm_int (by omega)
  rw [List.length_map] at this
  exact this
theorem sortD_ints {xs : List Int} (h : ∀ x ∈ xs, 0 ≤ x ∧ x ≤ 920) : Sm (.tuple (sortD (xs.map .int))) (41 * xs.length) 1 := by
  have hp : (sortD (xs.map PyData.int)).Perm (xs.map PyData.int) := List.mergeSort_perm _ _
  have := sm_tuple (w := 40) (h := 0) (xs := sortD (xs.map PyData.int)) fun x hx => by
    obtain ⟨i, hi, rfl⟩ := List.mem_map.mp (hp.mem_iff.mp hx)
    have := h i hi
    exact sm_int (by omega)
  rw [hp.length_eq, List.length_map] at this
  exact this
end Fx

set_option Elab.async false
set_option linter.all false
set_option maxRecDepth 100000
set_option maxHeartbeats 4000000
/-! Fy20: the urn; what the law asks. -/
namespace Fx
open PySem
local macro_rules | `(tactic| walk_at "fx") => `(tactic| simp only [fxS, fxE, fxV, fxW, fxM, fxI, fxJ, fxA, fxK, capD, beq_self_eq_true, Int.natCast_inj, Ev_ok, Ev_bind, at0, at1, at2, at3, atI_nat, List.map_cons, List.map_nil, List.length_cons, List.length_nil, List.length_map, List.length_set, List.set_set, List.replicate_succ, List.replicate_zero, List.cons_append, List.nil_append, List.getElem?_cons_zero, List.getElem?_cons_succ, List.set_cons_zero, List.set_cons_succ, Bool.false_eq_true, if_false, if_true, Bool.and_self, Bool.or_true, Bool.true_or, decide_true, decide_false, Bool.not_true, Bool.not_false, Bool.and_false, Bool.false_and, Nat.zero_min, Nat.reduceAdd, Nat.reduceSub, Int.reduceLT, Int.reduceLE, Nat.reduceLT, Nat.reduceLeDiff, reduceCtorEq, List.getElem?_nil, and_true, true_and, Nat.zero_le, Int.toNat_natCast, *])
variable {p : Prog} {k : Nat} {s : Sto}
theorem cut_ints {ns : List Int} {a b : Option Int} : cut (ns.map PyData.int) a b = (cut ns a b).map PyData.int := by
  unfold cut
  rw [List.length_map, List.map_take, List.map_drop]
theorem urn_ok (P : P74 p) {ns : List Int} {lap : Int} (h0 : 0 ≤ lap) (h1 : lap ≤ 10) :
    Ev ((tbl p (k + 1)).fn ("_law_urn" : Str) [.d (.list (ns.map .int)), .d (.int lap)] s) fun v s' => ∃ l, v = .o l ∧ Urn l s' := by
  rw [call_fn P.law_urn rfl]
  unfold i_law_urn
  have hc := cut_ints (ns := ns) (a := none) (b := some 9)
  walk_at "fx"
  refine for_inv (fun i ε s' => ∃ M e3 e4, ε = [some (.v (.d (.list (ns.map .int)))), some (.v (.d (.int lap))), some (.v (.d (.int M))), e3, e4] ∧ s' = s) ?_ ?_ ?_
  · rintro i x ε s1 hx ⟨M, e3, e4, rfl, rfl⟩
    rw [List.getElem?_map] at hx
    obtain ⟨c, _, rfl⟩ := Option.map_eq_some_iff.mp hx
    clear hx hc
    walk_at "fx"
    exact ⟨_, _, _, rfl⟩
  · rintro ε s1 ⟨M, e3, e4, rfl, rfl⟩
    have hten : small64 10 = true := small_of (by decide)
    clear hc
    have hz : (3 ≤ sizeLine) = True := eq_true (by unfold sizeLine; omega)
    have fin : ∀ x y z : Int, ∃ l, Val.o s1.length = Val.o l ∧ Urn l (s1 ++ [Cel.lst [.int x, .int y, .int z]]) := fun x y z => ⟨_, rfl, x, y, z, app_at _⟩
    by_cases hlap : lap < (ns.length : Int)
    · have hat : L2.atI (ns.map PyData.int) lap = some (.int (ns[lap.toNat]'(by omega))) := by
        rw [atI_of h0, List.getElem?_map, List.getElem?_eq_getElem (by omega)]
        rfl
      generalize ns[lap.toNat]'(by omega) = o at hat
      walk_at "fx"
      split
      · first | trivial | exact fin _ _ _
      · split
        · first | trivial | exact fin _ _ _
        · first | trivial | exact fin _ _ _
    · have hlap : (lap < (ns.length : Int)) = False := eq_false hlap
      walk_at "fx"
      split
      · first | trivial | exact fin _ _ _
      · first | trivial | exact fin _ _ _
  · exact ⟨_, _, _, rfl, rfl⟩
theorem perms : (∀ a b : Val, perm [1, 0] [a, b] = some [b, a]) ∧ (∀ a b c : Val, perm [2, 1, 0] [a, b, c] = some [c, b, a]) := ⟨fun _ _ => rfl, fun _ _ _ => rfl⟩
/-- what the law itself reckons from asks -/
theorem lates_due {as : List Ask} {m i : Nat} (hi : i < as.length) : ((slots as m).map PyData.int)[i]? = some (.int (slo as m i)) := by
  unfold slots
  rw [List.getElem?_map, List.getElem?_map, List.getElem?_range hi]
  rfl
theorem right_is (P : P74 p) {l : Nat} (hu : Urn l s) :
    Ev ((tbl p (k + 12)).fn ("_law_right" : Str) [.o l] s) fun v s' => v = .d (.bool true) := by
  rw [call_fn P.law_right rfl]
  unfold i_law_right
  have hb := bnd_of (i := 4) (by omega) (by omega)
  have hs4 : ((4 : Int) ≤ sizeLine) = True := eq_true (by unfold sizeLine; omega)
  walk_at "fx"
  refine for_inv (fun i ε s' => ∃ e1 e2 e3 e4 e5 e6 e7 e8 e9 e10, ε = [some (.v (.o l)), e1, e2, e3, e4, e5, e6, e7, e8, e9, e10] ∧ Urn l s') ?_ ?_ ?_
  · rintro i x ε s1 hx ⟨e1, e2, e3, e4, e5, e6, e7, e8, e9, e10, rfl, hu1⟩
    obtain ⟨rfl, hi⟩ := rngL_get hx
    clear hx hb hs4
    obtain ⟨q1, q2⟩ := perms
    walk_at "fx"
    refine (of_list P.law_take P.law_of hu1 (by simp) (by simp)).go fun v s2 ⟨⟨y1, e, hy1⟩, hu2, hk2⟩ => ?_
    subst e
    have hy1 : ∃ n : Nat, 1 ≤ n ∧ n ≤ 20 ∧ y1 = .int (n : Int) := by
      simp only [List.mem_cons, List.mem_nil_iff, or_false] at hy1
      rcases hy1 with h | h | h | h
      · exact ⟨1, by omega, by omega, h⟩
      · exact ⟨6, by omega, by omega, h⟩
      · exact ⟨12, by omega, by omega, h⟩
      · exact ⟨20, by omega, by omega, h⟩
    obtain ⟨n, n1, n2, rfl⟩ := hy1
    walk_at "fx"
    refine (of_list P.law_take P.law_of hu2 (by simp) (by simp)).go fun v s3 ⟨⟨y2, e, hy2⟩, hu3, hk3⟩ => ?_
    subst e
    have hy2 : ∃ n : Int, 0 ≤ n ∧ n ≤ 900 ∧ y2 = .int n := by
      simp only [List.mem_cons, List.mem_nil_iff, or_false] at hy2
      rcases hy2 with h | h | h | h
      · exact ⟨1, by omega, by omega, h⟩
      · exact ⟨5, by omega, by omega, h⟩
      · exact ⟨20, by omega, by omega, h⟩
      · exact ⟨900, by omega, by omega, h⟩
    obtain ⟨sp, sp1, sp2, rfl⟩ := hy2
    walk_at "fx"
    refine (of_list P.law_take P.law_of hu3 (by simp) (by simp)).go fun v s4 ⟨⟨y3, e, hy3⟩, hu4, hk4⟩ => ?_
    subst e
    have hy3 : ∃ n : Int, 0 ≤ n ∧ n ≤ 9 ∧ y3 = .int n := by
      simp only [List.mem_cons, List.mem_nil_iff, or_false] at hy3
      rcases hy3 with h | h
      · exact ⟨1, by omega, by omega, h⟩
      · exact ⟨9, by omega, by omega, h⟩
    obtain ⟨wi, wi1, wi2, rfl⟩ := hy3
    walk_at "fx"
    refine (asks_ok P hu4 n2 sp1 sp2 wi1 wi2).go fun v s5 ⟨⟨as, e, hal, hA⟩, hu5, hk5⟩ => ?_
    subst e
    walk_at "fx"
    refine (take_ok P.law_take hu5 (by omega) (by omega)).go fun v s6 ⟨⟨r, e, r1, r2⟩, hu6, hk6⟩ => ?_
    subst e
    obtain ⟨m, hm⟩ : ∃ m : Nat, 1 + r = (m : Int) := ⟨(1 + r).toNat, by omega⟩
    have m1 : 1 ≤ m := by omega
    have m2 : m ≤ 4 := by omega
    subst hal
    have h0 : 0 < as.length := n1
    have ssm := slots_small hA n2 m1
    have lsm := lates_small (as := as) n2 m1
    have rp1 : repOk (.list [.tuple ((slots as m).map .int), .tuple ((slots as m).map .int)]) = true := rep_two (sm_ints ssm) (by rw [slots_len]; omega) (by omega)
    have hs2 : (0 + 1 + 1 ≤ sizeLine) = True := eq_true (by unfold sizeLine; omega)
    walk_at "fx"
    refine (first_ok (k := k + 10) P hA n2 m1).go fun v s7 ⟨e, g, e2⟩ => ?_
    subst e e2
    have hu7 : Urn l (s6 ++ g) := hu6.app
    generalize s6 ++ g = s7 at hu7 ⊢
    walk_at "fx"
    refine (filling_ok (k := k + 1) P hA h0 n2 m1 m2).go fun v s8 ⟨e, g, e2⟩ => ?_
    subst e e2
    have hu8 : Urn l (s7 ++ g) := hu7.app
    generalize s7 ++ g = s8 at hu8 ⊢
    walk_at "fx"
    refine (filling_ok (k := k + 1) P hA h0 n2 m1 m2).go fun v s9 ⟨e, g, e2⟩ => ?_
    subst e e2
    have hu9 : Urn l (s8 ++ g) := hu8.app
    generalize s8 ++ g = s9 at hu9 ⊢
    have hbn := bnd_of (i := (as.length : Int)) (by omega) (by omega)
    have hsn : ((as.length : Int) ≤ sizeLine) = True := eq_true (by unfold sizeLine; omega)
    have hrg := rngL_nat (n := as.length)
    walk_at "fx"
    have hla' : (lates as m).length = as.length := by unfold lates; rw [List.length_map, List.length_range]
    refine cat_map (V := fun (i : Nat) => PyData.int (i : Int)) (g := fun i => .int (slo as m i - fst as i)) (fun i hi => ?_) ?_
    · have hi := List.mem_range.mp hi
      have h1 := lates_due (m := m) hi
      obtain ⟨h2, h3⟩ := ask_at hi
      clear ssm lsm rp1 hbn hsn hrg hla'
      walk_at "fx"
    · have hln : ((List.range as.length).length ≤ sizeLine) = True := eq_true (by rw [List.length_range]; unfold sizeLine; omega)
      have hlf : ((List.range as.length).map fun i => PyData.int (slo as m i - fst as i)) = (lates as m).map .int := by unfold lates; rw [List.map_map]; rfl
      rw [fst_map]
      walk_at "fx"
      clear hln hlf hbn hsn hrg
      refine (used_ok (k := k + 1) P hA h0 n2 m1 m2).go fun v s10 ⟨e, g, e2⟩ => ?_
      subst e e2
      have hu10 : Urn l (s9 ++ g) := hu9.app
      generalize s9 ++ g = s10 at hu10 ⊢
      walk_at "fx"
      refine (lateness_ok (k := k + 1) P hA h0 n2 m1 m2).go fun v s11 ⟨e, g, e2⟩ => ?_
      subst e e2
      have hu11 : Urn l (s10 ++ g) := hu10.app
      generalize s10 ++ g = s11 at hu11 ⊢
      walk_at "fx"
      refine (greatest_ok (k := k + 1) P hA h0 n2 m1 m2).go fun v s12 ⟨⟨a, r', ea, e⟩, g, e2⟩ => ?_
      subst e e2
      replace ea := ea.symm
      have hhd : hdO (lates as m) = some (a, r') := by rw [← ea]; rfl
      have hu12 : Urn l (s11 ++ g) := hu11.app
      generalize s11 ++ g = s12 at hu12 ⊢
      walk_at "fx"
      refine (is_filling_ok (k := k + 1) P hA h0 n2 m1 m2).go fun v s13 ⟨e, g, e2⟩ => ?_
      subst e e2
      have hu13 : Urn l (s12 ++ g) := hu12.app
      generalize s12 ++ g = s13 at hu13 ⊢
      have hs44 : (0 + 1 + 1 + 1 + 1 ≤ sizeLine) = True := eq_true (by unfold sizeLine; omega)
      have hs43 : (0 + 1 + 1 + 1 ≤ sizeLine) = True := eq_true (by unfold sizeLine; omega)
      walk_at "fx"
      refine (used_ok (k := k + 1) P hA h0 n2 m1 m2).go fun v s14 ⟨e, g, e2⟩ => ?_
      subst e e2
      have hu14 : Urn l (s13 ++ g) := hu13.app
      generalize s13 ++ g = s14 at hu14 ⊢
      walk_at "fx"
      refine (lateness_ok (k := k + 1) P hA h0 n2 m1 m2).go fun v s15 ⟨e, g, e2⟩ => ?_
      subst e e2
      have hu15 : Urn l (s14 ++ g) := hu14.app
      generalize s14 ++ g = s15 at hu15 ⊢
      walk_at "fx"
      refine (greatest_ok (k := k + 1) P hA h0 n2 m1 m2).go fun v s16 ⟨⟨a2, r2', ea2, e⟩, g, e2⟩ => ?_
      rw [← ea] at ea2
      obtain ⟨rfl, rfl⟩ := List.cons.inj ea2
      subst e e2
      have hu16 : Urn l (s15 ++ g) := hu15.app
      generalize s15 ++ g = s16 at hu16 ⊢
      have hat := app_at (s := s16) (.lst [PyData.tuple (sortD ((slots as m).map .int)), .int (lates as m).sum, .int (maxI a r')])
      have hu17 : Urn l (s16 ++ [.lst [PyData.tuple (sortD ((slots as m).map .int)), .int (lates as m).sum, .int (maxI a r')]]) := hu16.app
      have hll := hu16.lt
      walk_at "fx"
      generalize s16 ++ [Cel.lst [PyData.tuple (sortD ((slots as m).map .int)), .int (lates as m).sum, .int (maxI a r')]] = s17 at hat hu17 ⊢
      refine (is_filling_ok (k := k + 1) P hA h0 n2 m1 m2).go fun v s18 ⟨e, g, e2⟩ => ?_
      subst e e2
      have hu18 : Urn l (s17 ++ g) := hu17.app
      have hat2 : (s17 ++ g)[s16.length]? = some (.lst [PyData.tuple (sortD ((slots as m).map .int)), .int (lates as m).sum, .int (maxI a r')]) := by rw [List.getElem?_append_left (lt_of hat)]; exact hat
      generalize s17 ++ g = s18 at hat2 hu18 ⊢
      have hs3 : (3 < sizeLine) = True := eq_true (by unfold sizeLine; omega)
      have hgs := fun c => get_set (c := c) (lt_of hat2)
      have hso := sort_ints (xs := slots as m)
      have hin := ints_int (xs := lates as m)
      walk_at "fx"
      have hsr : Sm (.list [PyData.tuple (sortD ((slots as m).map .int)), .int (lates as m).sum, .int (maxI a r'), .bool true]) (821 * 4) 2 := sm_list (w := 820) (h := 1) fun y hy => by
        simp only [List.mem_cons, List.mem_nil_iff, or_false] at hy
        rcases hy with rfl | rfl | rfl | rfl
        · exact (sortD_ints ssm).mono (by rw [slots_len]; omega) (Nat.le_refl _)
        · have := sum_small lsm
          exact (sm_int (by omega)).mono (by omega) (by omega)
        · have := maxI_small (lsm a (by rw [← ea]; exact List.mem_cons_self)) fun y hy => lsm y (by rw [← ea]; exact List.mem_cons_of_mem _ hy)
          exact (sm_int (by omega)).mono (by omega) (by omega)
        · exact sm_bool.mono (by omega) (by omega)
      have rp2 := rep_two hsr (by omega) (by omega)
      have rp3 : repOk (.list [.int (onTime as m), .int (onTime as m)]) = true := rep_two (sm_int (by have := onTime_small (as := as) n2 m2; omega)) (by omega) (by omega)
      have hlo : (tbl p (k + 11)).fn ("_law_on_time" : Str) [.d (.tuple (as.map askV)), .d (.tuple ((slots as m).map .int))] (s18.set s16.length .dead) = .ok (.d (.int (onTime as m))) (s18.set s16.length .dead) := law_on_time_ok (k := k + 10) P n2 m1
      have hmo : (tbl p (k + 11)).fn ("most_on_time" : Str) [.d (.tuple (as.map askV)), .d (.int m)] (s18.set s16.length .dead) = .ok (.d (.int (onTime as m))) (s18.set s16.length .dead) := most_ok (k := k + 1) P hA h0 n2 m1 m2
      have hfin : Urn l (s18.set s16.length .dead) := hu18.set (by omega)
      clear hsr ssm lsm hgs hat hat2
      walk_at "fx"
      exact ⟨_, _, _, _, _, _, _, _, _, _, rfl⟩
  · rintro ε s1 ⟨e1, e2, e3, e4, e5, e6, e7, e8, e9, e10, rfl, hu1⟩
    walk_at "fx"
  · exact ⟨_, _, _, _, _, _, _, _, _, _, rfl, hu⟩
/-- the law says yes -/
theorem law_is (P : P74 p) {ns : List Int} (hn : ns.length ≤ 63) : Ev ((tbl p (k + 13)).fn ("law" : Str) [.d (.list (ns.map .int))] s) fun v s' => v = .d (.bool true) := by
  rw [call_fn P.law rfl]
  unfold i_law
  walk_at "fx"
  obtain ⟨K, hK, hK2⟩ : ∃ K : Nat, (if (if (3 : Int) < (ns.length : Int) then (3 : Int) else (ns.length : Int)) > 1 then (if (3 : Int) < (ns.length : Int) then (3 : Int) else (ns.length : Int)) else 1) = (K : Int) ∧ K ≤ 3 := by
    by_cases h1 : (3 : Int) < (ns.length : Int)
    · exact ⟨3, by rw [if_pos h1]; rfl, by omega⟩
    · rw [if_neg h1]
      by_cases h2 : (ns.length : Int) > 1
      · exact ⟨ns.length, by rw [if_pos h2], by omega⟩
      · exact ⟨1, by rw [if_neg h2]; rfl, by omega⟩
  rw [hK]
  clear hK
  have hb := bnd_of (i := (K : Int)) (by omega) (by omega)
  have hs : ((K : Int) ≤ sizeLine) = True := eq_true (by unfold sizeLine; omega)
  walk_at "fx"
  refine cat_inv (fun i acc s' => acc = (List.range i).map fun _ => (PyData.bool true, PyData.none)) (fun i x acc s1 hx hi => ?_) (fun acc s1 hi => ?_) rfl
  · subst hi
    obtain ⟨rfl, hiK⟩ := rngL_get hx
    clear hx hb hs
    walk_at "fx"
    refine (urn_ok (k := k + 11) P (by omega) (by omega)).go fun v s2 ⟨l, e, hu⟩ => ?_
    subst e
    walk_at "fx"
    refine (right_is P hu).go fun v s3 e => ?_
    subst e
    walk_at "fx"
    rw [List.range_succ, List.map_append]
    rfl
  · rw [rngL_len] at hi
    subst hi
    have h1 : ((List.range K).map fun _ => PyData.bool true) = (List.range K).map (fun _ => PyData.bool true) := rfl
    have h2 := bools_map (b := fun _ : Nat => true) (xs := List.range K)
    have h3 := all_true (xs := List.range K)
    have h4 : ((List.range K).length ≤ sizeLine) = True := eq_true (by rw [List.length_range]; unfold sizeLine; omega)
    clear hb hs h1
    rw [fst_map]
    walk_at "fx"
end Fx

set_option Elab.async false
set_option linter.all false
set_option maxRecDepth 100000
set_option maxHeartbeats 0
/-! K74D: our texts of the defs of law k74 (printed by genlean.py), and their check. -/
namespace K74
open PySem PySem.Spec PyProof.Rows L2 Fx
abbrev PR : Program := PySem.Challenge.pw_runwayrows_k74_whole_first_fillings
def top (i : Nat) : Stmt := PR.main.body.getD i (.Pass ⟨0, 0, 0, 0⟩)
def i_law : Ss := (.cons (.ret (.bi .all false (.cons (.comp false [1] (.cons (.nm 1) (.rng1 (.bi .max2 false (.cons (.cst (.int 1)) (.cons (.bi .min2 false (.cons (.bi .len false (.cons (.var 0) .nil)) (.cons (.cst (.int 3)) .nil))) .nil)))) .no .nil) (.call "_law_right" (.cons (.call "_law_urn" (.cons (.var 0) (.cons (.var 1) .nil)) []) .nil) [])) .nil)))
 .nil)
def d_law : DD := ⟨"law", defArgs (top 47), defBody (top 47), defScope (top 47), ["script"], ["script", "lap"], i_law, none⟩
def i__law_right : Ss := (.cons (.for_ (.nm 1) (.rng1 (.cst (.int 4)))
 (.cons (.asg (.nm 2) (.call "_law_asks" (.cons (.var 0) (.cons (.call "_law_of" (.cons (.var 0) (.cons (.lst false (.cons (.cst (.int 1)) (.cons (.cst (.int 6)) (.cons (.cst (.int 12)) (.cons (.cst (.int 20)) .nil))))) .nil)) []) (.cons (.call "_law_of" (.cons (.var 0) (.cons (.lst false (.cons (.cst (.int 1)) (.cons (.cst (.int 5)) (.cons (.cst (.int 20)) (.cons (.cst (.int 900)) .nil))))) .nil)) []) (.cons (.call "_law_of" (.cons (.var 0) (.cons (.lst false (.cons (.cst (.int 1)) (.cons (.cst (.int 9)) .nil))) .nil)) []) .nil)))) []))
 (.cons (.asg (.nm 3) (.bin .Add (.cst (.int 1)) (.call "_law_take" (.cons (.var 0) (.cons (.cst (.int 4)) .nil)) [])))
 (.cons (.asg (.nm 4) (.call "_law_first" (.cons (.var 2) (.cons (.var 3) .nil)) []))
 (.cons (.ifs (.rep true (.lst false (.cons (.call "first_filling" (.cons (.var 2) (.cons (.var 3) .nil)) []) (.cons (.call "first_filling" (.cons (.var 3) (.cons (.var 2) .nil)) [1, 0]) .nil))) (.lst false (.cons (.var 4) (.cons (.var 4) .nil))))
 (.cons (.ret (.cst (.bool false)))
 .nil)
 .nil)
 (.cons (.asg (.nm 5) (.comp false [10] (.cons (.nm 10) (.rng1 (.bi .len false (.cons (.var 2) .nil))) .no .nil) (.bin .Sub (.sub (.var 4) (.var 10)) (.sub (.sub (.var 2) (.var 10)) (.cst (.int 1))))))
 (.cons (.asg (.nm 6) (.lst false (.cons (.call "used" (.cons (.var 2) (.cons (.var 3) .nil)) []) (.cons (.call "lateness" (.cons (.var 2) (.cons (.var 3) .nil)) []) (.cons (.call "greatest_late" (.cons (.var 2) (.cons (.var 3) .nil)) []) (.cons (.call "is_filling" (.cons (.var 2) (.cons (.var 3) (.cons (.var 4) .nil))) []) .nil))))))
 (.cons (.asg (.nm 7) (.lst true (.cons (.call "used" (.cons (.var 3) (.cons (.var 2) .nil)) [1, 0]) (.cons (.call "lateness" (.cons (.var 3) (.cons (.var 2) .nil)) [1, 0]) (.cons (.call "greatest_late" (.cons (.var 3) (.cons (.var 2) .nil)) [1, 0]) .nil)))))
 (.cons (.ex (.me .append (.var 7) (.cons (.call "is_filling" (.cons (.var 4) (.cons (.var 3) (.cons (.var 2) .nil))) [2, 1, 0]) .nil)))
 (.cons (.asg (.nm 8) (.lst false (.cons (.bi .tuple false (.cons (.bi .sorted false (.cons (.var 4) .nil)) .nil)) (.cons (.bi .sum false (.cons (.var 5) .nil)) (.cons (.bi .max false (.cons (.var 5) .nil)) (.cons (.cst (.bool true)) .nil))))))
 (.cons (.ifs (.rep true (.lst false (.cons (.var 6) (.cons (.frz (.var 7)) .nil))) (.lst false (.cons (.var 8) (.cons (.var 8) .nil))))
 (.cons (.ret (.cst (.bool false)))
 .nil)
 .nil)
 (.cons (.asg (.nm 9) (.call "_law_on_time" (.cons (.var 2) (.cons (.var 4) .nil)) []))
 (.cons (.ifs (.rep true (.lst false (.cons (.call "most_on_time" (.cons (.var 2) (.cons (.var 3) .nil)) []) (.cons (.call "most_on_time" (.cons (.var 3) (.cons (.var 2) .nil)) [1, 0]) .nil))) (.lst false (.cons (.var 9) (.cons (.var 9) .nil))))
 (.cons (.ret (.cst (.bool false)))
 .nil)
 .nil)
 .nil)))))))))))))
 (.cons (.ret (.cst (.bool true)))
 .nil))
def d__law_right : DD := ⟨"_law_right", defArgs (top 46), defBody (top 46), defScope (top 46), ["urn"], ["urn", "turn", "asks", "many", "due", "late", "told", "named", "rows", "most", "k"], i__law_right, none⟩
def i__law_urn : Ss := (.cons (.asg (.nm 2) (.bin .Add (.cst (.int 744067)) (.bin .Mult (.cst (.int 8111)) (.var 1))))
 (.cons (.for_ (.nm 3) (.of (.slc (.var 0) .no (.cst (.int 9))))
 (.cons (.asg (.nm 2) (.bin .Mod (.bi .int false (.cons (.bin .Add (.bin .Add (.bin .Mult (.var 2) (.cst (.int 50021))) (.bin .Mult (.bin .Mod (.bi .int false (.cons (.var 3) .nil)) (.cst (.int 2147483477))) (.cst (.int 13)))) (.cst (.int 41))) .nil)) (.cst (.int 2147483629))))
 .nil))
 (.cons (.asg (.nm 4) (.ife (.cmp .Lt (.var 1) (.bi .len false (.cons (.var 0) .nil))) (.bi .int false (.cons (.sub (.var 0) (.var 1)) .nil)) (.cst (.int 0))))
 (.cons (.asg (.nm 2) (.bin .Mod (.bi .int false (.cons (.bin .Add (.bin .Add (.bin .Mult (.var 2) (.cst (.int 59))) (.bin .Mult (.bin .Mod (.bi .int false (.cons (.var 4) .nil)) (.cst (.int 2147483477))) (.cst (.int 30029)))) (.cst (.int 5))) .nil)) (.cst (.int 2147483629))))
 (.cons (.ret (.lst true (.cons (.ife (.orv (.cmp .Lt (.var 4) (.cst (.int 0))) (.cmp .GtE (.var 4) (.bin .Pow (.cst (.int 10)) (.cst (.int 15))))) (.bi .abs false (.cons (.var 4) .nil)) (.cst (.int 0))) (.cons (.var 2) (.cons (.cst (.int 0)) .nil)))))
 .nil)))))
def d__law_urn : DD := ⟨"_law_urn", defArgs (top 39), defBody (top 39), defScope (top 39), ["script", "lap"], ["script", "lap", "mixed", "cell", "own"], i__law_urn, none⟩
def i__law_asks : Ss := (.cons (.asg (.nm 4) (.tup .nil))
 (.cons (.for_ (.nm 5) (.of (.call "_law_names" (.cons (.var 0) (.cons (.var 1) .nil)) []))
 (.cons (.asg (.nm 6) (.call "_law_take" (.cons (.var 0) (.cons (.bin .Add (.var 2) (.cst (.int 1))) .nil)) []))
 (.cons (.asg (.nm 4) (.bin .Add (.var 4) (.tup (.cons (.tup (.cons (.var 5) (.cons (.var 6) (.cons (.bin .Add (.var 6) (.call "_law_of" (.cons (.var 0) (.cons (.lst false (.cons (.cst (.int 0)) (.cons (.cst (.int 0)) (.cons (.var 3) (.cons (.call "_law_take" (.cons (.var 0) (.cons (.bin .Add (.var 3) (.cst (.int 1))) .nil)) []) .nil))))) .nil)) [])) .nil)))) .nil))))
 .nil)))
 (.cons (.ret (.var 4))
 .nil)))
def d__law_asks : DD := ⟨"_law_asks", defArgs (top 43), defBody (top 43), defScope (top 43), ["urn", "many", "span", "wide"], ["urn", "many", "span", "wide", "found", "name", "first"], i__law_asks, none⟩
def i__law_of : Ss := (.cons (.ret (.sub (.var 1) (.call "_law_take" (.cons (.var 0) (.cons (.bi .len false (.cons (.var 1) .nil)) .nil)) [])))
 .nil)
def d__law_of : DD := ⟨"_law_of", defArgs (top 41), defBody (top 41), defScope (top 41), ["urn", "some"], ["urn", "some"], i__law_of, none⟩
def i__law_take : Ss := (.cons (.ifs (.cmp .Gt (.sub (.var 0) (.cst (.int 0))) (.cst (.int 0)))
 (.cons (.asg (.tp (.cons (.sb (.var 0) (.cst (.int 0))) (.cons (.nm 2) .nil))) (.bi .divmod false (.cons (.sub (.var 0) (.cst (.int 0))) (.cons (.var 1) .nil))))
 (.cons (.ret (.var 2))
 .nil))
 .nil)
 (.cons (.asg (.sb (.var 0) (.cst (.int 2))) (.bin .Add (.sub (.var 0) (.cst (.int 2))) (.cst (.int 1))))
 (.cons (.asg (.nm 3) (.bin .Mod (.bi .int false (.cons (.bin .Add (.bin .Mult (.sub (.var 0) (.cst (.int 1))) (.cst (.int 40009))) (.bin .Mult (.cst (.int 15013)) (.sub (.var 0) (.cst (.int 2))))) .nil)) (.cst (.int 2147483629))))
 (.cons (.asg (.sb (.var 0) (.cst (.int 1))) (.bin .Mod (.bi .int false (.cons (.bin .Add (.bin .Mult (.var 3) (.bin .Add (.bin .Mod (.bi .int false (.cons (.var 3) .nil)) (.cst (.int 5003))) (.cst (.int 30011)))) (.bin .Mult (.cst (.int 3)) (.sub (.var 0) (.cst (.int 2))))) .nil)) (.cst (.int 2147483629))))
 (.cons (.ret (.bin .Mod (.bi .int false (.cons (.bin .FloorDiv (.sub (.var 0) (.cst (.int 1))) (.cst (.int 907))) .nil)) (.var 1)))
 .nil)))))
def d__law_take : DD := ⟨"_law_take", defArgs (top 40), defBody (top 40), defScope (top 40), ["urn", "many"], ["urn", "many", "figure", "stir"], i__law_take, none⟩
def i__law_first : Ss := (.cons (.par (.cons (.nm 2) (.cons (.nm 3) .nil)) (.cons (.mulO (.lst false (.cons (.cst (.int 0)) .nil)) (.bi .len false (.cons (.var 0) .nil))) (.cons (.dnew false) .nil)))
 (.cons (.for_ (.tp (.cons (.nm 4) (.cons (.nm 5) .nil))) (.of (.bi .sorted false (.cons (.comp false [5] (.cons (.nm 5) (.rng1 (.bi .len false (.cons (.var 0) .nil))) .no .nil) (.tup (.cons (.sub (.sub (.var 0) (.var 5)) (.cst (.int 1))) (.cons (.var 5) .nil)))) .nil)))
 (.cons (.asg (.nm 6) (.var 4))
 (.cons (.for_ (.nm 7) (.rng1 (.bi .len false (.cons (.var 0) .nil)))
 (.cons (.asg (.nm 6) (.bin .Add (.var 6) (.bi .int false (.cons (.cmp .GtE (.me .get (.var 3) (.cons (.var 6) (.cons (.cst (.int 0)) .nil))) (.var 1)) .nil))))
 .nil))
 (.cons (.asg (.sb (.var 2) (.var 5)) (.var 6))
 (.cons (.asg (.ds (.var 3) (.var 6)) (.bin .Add (.me .get (.var 3) (.cons (.var 6) (.cons (.cst (.int 0)) .nil))) (.cst (.int 1))))
 .nil)))))
 (.cons (.ret (.bi .tuple false (.cons (.var 2) .nil)))
 .nil)))
def d__law_first : DD := ⟨"_law_first", defArgs (top 44), defBody (top 44), defScope (top 44), ["asks", "many"], ["asks", "many", "found", "taken", "first", "k", "slot", "turn"], i__law_first, none⟩
def i_first_filling : Ss := (.cons (.ex (.call "check_asked" (.cons (.var 0) (.cons (.var 1) .nil)) []))
 (.cons (.ret (.bi .tuple false (.cons (.call "filled" (.cons (.var 0) (.cons (.var 1) .nil)) []) .nil)))
 .nil))
def d_first_filling : DD := ⟨"first_filling", defArgs (top 35), defBody (top 35), defScope (top 35), ["asks", "many"], ["asks", "many"], i_first_filling, none⟩
def i_used : Ss := (.cons (.ex (.call "check_asked" (.cons (.var 0) (.cons (.var 1) .nil)) []))
 (.cons (.ret (.bi .tuple false (.cons (.bi .sorted false (.cons (.call "filled" (.cons (.var 0) (.cons (.var 1) .nil)) []) .nil)) .nil)))
 .nil))
def d_used : DD := ⟨"used", defArgs (top 32), defBody (top 32), defScope (top 32), ["asks", "many"], ["asks", "many"], i_used, none⟩
def i_lateness : Ss := (.cons (.ex (.call "check_asked" (.cons (.var 0) (.cons (.var 1) .nil)) []))
 (.cons (.ret (.bi .sum false (.cons (.call "lates_of" (.cons (.var 0) (.cons (.call "filled" (.cons (.var 0) (.cons (.var 1) .nil)) []) .nil)) []) .nil)))
 .nil))
def d_lateness : DD := ⟨"lateness", defArgs (top 33), defBody (top 33), defScope (top 33), ["asks", "many"], ["asks", "many"], i_lateness, none⟩
def i_greatest_late : Ss := (.cons (.ex (.call "check_asked" (.cons (.var 0) (.cons (.var 1) .nil)) []))
 (.cons (.ret (.bi .max false (.cons (.call "lates_of" (.cons (.var 0) (.cons (.call "filled" (.cons (.var 0) (.cons (.var 1) .nil)) []) .nil)) []) .nil)))
 .nil))
def d_greatest_late : DD := ⟨"greatest_late", defArgs (top 36), defBody (top 36), defScope (top 36), ["asks", "many"], ["asks", "many"], i_greatest_late, none⟩
def i_is_filling : Ss := (.cons (.ex (.call "check_asked" (.cons (.var 0) (.cons (.var 1) .nil)) []))
 (.cons (.ret (.andv (.call "are_slots_for" (.cons (.var 0) (.cons (.var 2) .nil)) []) (.call "is_filled" (.cons (.var 0) (.cons (.var 1) (.cons (.var 2) .nil))) [])))
 .nil))
def d_is_filling : DD := ⟨"is_filling", defArgs (top 34), defBody (top 34), defScope (top 34), ["asks", "many", "value"], ["asks", "many", "value"], i_is_filling, none⟩
def i__law_on_time : Ss := (.cons (.asg (.nm 2) (.cst (.int 0)))
 (.cons (.for_ (.nm 3) (.of (.bi .sortedSet false (.cons (.var 1) .nil)))
 (.cons (.asg (.nm 4) (.bi .len false (.cons (.comp false [5] (.cons (.nm 5) (.of (.var 1)) (.cmp .Eq (.var 5) (.var 3)) .nil) (.var 5)) .nil)))
 (.cons (.asg (.nm 2) (.bin .Add (.var 2) (.bi .min2 false (.cons (.var 4) (.cons (.bi .len false (.cons (.comp false [6] (.cons (.nm 6) (.of (.var 0)) (.cmp .Eq (.sub (.var 6) (.cst (.int 1))) (.var 3)) .nil) (.var 6)) .nil)) .nil)))))
 .nil)))
 (.cons (.ret (.var 2))
 .nil)))
def d__law_on_time : DD := ⟨"_law_on_time", defArgs (top 45), defBody (top 45), defScope (top 45), ["asks", "slots"], ["asks", "slots", "found", "slot", "uses", "each", "ask"], i__law_on_time, none⟩
def i_most_on_time : Ss := (.cons (.ex (.call "check_asked" (.cons (.var 0) (.cons (.var 1) .nil)) []))
 (.cons (.asg (.nm 2) (.comp false [3, 4] (.cons (.tp (.cons (.nm 3) (.cons (.nm 4) (.cons (.nm 3) .nil)))) (.of (.var 0)) .no .nil) (.var 4)))
 (.cons (.ret (.bi .sum false (.cons (.comp false [4] (.cons (.nm 4) (.of (.bi .sortedSet false (.cons (.var 2) .nil))) .no .nil) (.bi .min2 false (.cons (.var 1) (.cons (.me .count (.var 2) (.cons (.var 4) .nil)) .nil)))) .nil)))
 .nil)))
def d_most_on_time : DD := ⟨"most_on_time", defArgs (top 37), defBody (top 37), defScope (top 37), ["asks", "many"], ["asks", "many", "firsts", "_", "first"], i_most_on_time, none⟩
def i__law_names : Ss := (.cons (.par (.cons (.nm 2) (.cons (.nm 3) .nil)) (.cons (.lst true .nil) (.cons (.cst (.str "abcdefghijklmnopqrstuvwxyz")) .nil)))
 (.cons (.for_ (.nm 4) (.rng1 (.var 1))
 (.cons (.par (.cons (.nm 5) (.cons (.nm 6) .nil)) (.cons (.call "_law_of" (.cons (.var 0) (.cons (.lst false (.cons (.cst (.int 0)) (.cons (.cst (.int 0)) (.cons (.cst (.int 1)) (.cons (.cst (.int 3)) (.cons (.cst (.int 6)) .nil)))))) .nil)) []) (.cons (.cst (.str "")) .nil)))
 (.cons (.for_ (.nm 7) (.rng1 (.var 5))
 (.cons (.asg (.nm 6) (.bin .Add (.var 6) (.call "_law_of" (.cons (.var 0) (.cons (.var 3) .nil)) [])))
 .nil))
 (.cons (.asg (.nm 8) (.call "_law_take" (.cons (.var 0) (.cons (.bin .Add (.var 5) (.cst (.int 1))) .nil)) []))
 (.cons (.asg (.nm 6) (.bin .Add (.bin .Add (.bin .Add (.slc (.var 6) .no (.var 8)) (.sub (.var 3) (.var 4))) (.slc (.cst (.str "q")) .no (.var 5))) (.slc (.var 6) (.var 8) .no)))
 (.cons (.ex (.me .append (.var 2) (.cons (.ife (.cmp .NotIn (.var 6) (.var 2)) (.var 6) (.bin .Add (.bin .Mult (.sub (.var 3) (.var 4)) (.cst (.int 7))) (.cst (.str "q")))) .nil)))
 .nil))))))
 (.cons (.ret (.frz (.var 2)))
 .nil)))
def d__law_names : DD := ⟨"_law_names", defArgs (top 42), defBody (top 42), defScope (top 42), ["urn", "many"], ["urn", "many", "found", "letters", "turn", "size", "name", "lap", "at"], i__law_names, none⟩
def i_check_asked : Ss := (.cons (.ex (.call "check_asks" (.cons (.var 0) .nil) []))
 (.cons (.ex (.call "check_number" (.cons (.var 1) (.cons (.cst (.int 1)) (.cons (.glob "MOST_RUNWAYS") .nil))) []))
 .nil))
def d_check_asked : DD := ⟨"check_asked", defArgs (top 29), defBody (top 29), defScope (top 29), ["asks", "many"], ["asks", "many"], i_check_asked, none⟩
def i_filled : Ss := (.cons (.par (.cons (.nm 2) (.cons (.nm 3) .nil)) (.cons (.dnew false) (.cons (.dnew false) .nil)))
 (.cons (.for_ (.nm 4) (.of (.sortR false (.bi .len false (.cons (.var 0) .nil)) (.clo 0 [0])))
 (.cons (.asg (.ds (.var 2) (.var 4)) (.call "first_free" (.cons (.var 3) (.cons (.var 1) (.cons (.sub (.sub (.var 0) (.var 4)) (.cst (.int 1))) .nil))) []))
 (.cons (.asg (.ds (.var 3) (.dsub (.var 2) (.var 4))) (.bin .Add (.me .get (.var 3) (.cons (.dsub (.var 2) (.var 4)) (.cons (.cst (.int 0)) .nil))) (.cst (.int 1))))
 .nil)))
 (.cons (.ret (.comp false [4] (.cons (.nm 4) (.rng1 (.bi .len false (.cons (.var 0) .nil))) .no .nil) (.dsub (.var 2) (.var 4))))
 .nil)))
def d_filled : DD := ⟨"filled", defArgs (top 23), defBody (top 23), defScope (top 23), ["asks", "many"], ["asks", "many", "found", "used", "at"], i_filled, some (fun l c => qualIn "filled" (defScope (top 23)) ++ (if l = 60 ∧ c = 43 then ("<lambda>" : Str) else ""))⟩
def i_lates_of : Ss := (.cons (.ret (.comp false [2, 3] (.cons (.tp (.cons (.nm 2) (.cons (.nm 3) .nil))) (.zip (.var 0) (.var 1)) .no .nil) (.bin .Sub (.var 3) (.sub (.var 2) (.cst (.int 1))))))
 .nil)
def d_lates_of : DD := ⟨"lates_of", defArgs (top 24), defBody (top 24), defScope (top 24), ["asks", "slots"], ["asks", "slots", "ask", "slot"], i_lates_of, none⟩
def i_are_slots_for : Ss := (.cons (.ifs (.notv (.call "is_tuple_of" (.cons (.var 1) (.cons (.bi .len false (.cons (.var 0) .nil)) .nil)) []))
 (.cons (.ret (.cst (.bool false)))
 .nil)
 .nil)
 (.cons (.ret (.bi .all false (.cons (.comp false [2, 3] (.cons (.tp (.cons (.nm 2) (.cons (.nm 3) .nil))) (.zip (.var 0) (.var 1)) .no .nil) (.call "is_number" (.cons (.var 3) (.cons (.sub (.var 2) (.cst (.int 1))) (.cons (.cst .none) .nil))) [])) .nil)))
 .nil))
def d_are_slots_for : DD := ⟨"are_slots_for", defArgs (top 31), defBody (top 31), defScope (top 31), ["asks", "value"], ["asks", "value", "ask", "slot"], i_are_slots_for, none⟩
def i_is_filled : Ss := (.cons (.asg (.nm 3) (.dcomp false [5] (.cons (.nm 5) (.of (.var 2)) .no .nil) (.var 5) (.bi .len false (.cons (.comp false [6] (.cons (.nm 6) (.of (.var 2)) (.cmp .Eq (.var 6) (.var 5)) .nil) (.var 6)) .nil))))
 (.cons (.ifs (.cmp .Gt (.bi .maxVals false (.cons (.var 3) .nil)) (.var 1))
 (.cons (.ret (.cst (.bool false)))
 .nil)
 .nil)
 (.cons (.for_ (.tp (.cons (.nm 4) (.cons (.nm 5) .nil))) (.zip (.var 0) (.var 2))
 (.cons (.ifs (.notv (.bi .all false (.cons (.comp false [7] (.cons (.nm 7) (.rng2 (.sub (.var 4) (.cst (.int 1))) (.bi .min2 false (.cons (.var 5) (.cons (.bin .Add (.bin .Add (.sub (.var 4) (.cst (.int 1))) (.bi .len false (.cons (.var 0) .nil))) (.cst (.int 1))) .nil)))) .no .nil) (.cmp .Eq (.me .get (.var 3) (.cons (.var 7) (.cons (.cst (.int 0)) .nil))) (.var 1))) .nil)))
 (.cons (.ret (.cst (.bool false)))
 .nil)
 .nil)
 .nil))
 (.cons (.ret (.cst (.bool true)))
 .nil))))
def d_is_filled : DD := ⟨"is_filled", defArgs (top 25), defBody (top 25), defScope (top 25), ["asks", "many", "slots"], ["asks", "many", "slots", "counts", "ask", "slot", "other", "own"], i_is_filled, none⟩
def i_check_asks : Ss := (.cons (.for_ (.nm 1) (.of (.call "wrong_asks" (.cons (.var 0) .nil) []))
 (.cons (.ex .no)
 .nil))
 .nil)
def d_check_asks : DD := ⟨"check_asks", defArgs (top 28), defBody (top 28), defScope (top 28), ["value"], ["value", "at"], i_check_asks, none⟩
def i_check_number : Ss := (.cons (.ifs (.notv (.call "is_number" (.cons (.var 0) (.cons (.var 1) (.cons (.var 2) .nil))) []))
 (.cons (.ex .no)
 .nil)
 .nil)
 .nil)
def d_check_number : DD := ⟨"check_number", defArgs (top 16), defBody (top 16), defScope (top 16), ["value", "low", "high"], ["value", "low", "high"], i_check_number, none⟩
def i_first_free : Ss := (.cons (.asg (.nm 3) (.var 2))
 (.cons (.whl 100000 (.cmp .Eq (.me .get (.var 0) (.cons (.var 3) (.cons (.cst (.int 0)) .nil))) (.var 1))
 (.cons (.aug 3 .Add (.cst (.int 1)))
 .nil))
 (.cons (.ret (.var 3))
 .nil)))
def d_first_free : DD := ⟨"first_free", defArgs (top 22), defBody (top 22), defScope (top 22), ["used", "many", "slot"], ["used", "many", "slot", "found"], i_first_free, none⟩
def i_is_tuple_of : Ss := (.cons (.ret (.andv (.isi (.var 0) .tuple) (.cmp .Eq (.bi .len false (.cons (.var 0) .nil)) (.var 1))))
 .nil)
def d_is_tuple_of : DD := ⟨"is_tuple_of", defArgs (top 8), defBody (top 8), defScope (top 8), ["value", "length"], ["value", "length"], i_is_tuple_of, none⟩
def i_is_number : Ss := (.cons (.ifs (.orv (.notv (.call "is_whole" (.cons (.var 0) .nil) [])) (.andv (.cmp .IsNot (.var 1) (.cst .none)) (.cmp .Lt (.var 0) (.var 1))))
 (.cons (.ret (.cst (.bool false)))
 .nil)
 .nil)
 (.cons (.ret (.orv (.cmp .Is (.var 2) (.cst .none)) (.cmp .LtE (.var 0) (.var 2))))
 .nil))
def d_is_number : DD := ⟨"is_number", defArgs (top 5), defBody (top 5), defScope (top 5), ["value", "low", "high"], ["value", "low", "high"], i_is_number, none⟩
def i_wrong_asks : Ss := (.cons (.ndef 1 1 [])
 (.cons (.ret (.call "wrong_from_one" (.cons (.var 0) (.cons (.glob "MOST_ASKS") (.cons (.var 1) .nil))) []))
 .nil))
def d_wrong_asks : DD := ⟨"wrong_asks", defArgs (top 21), defBody (top 21), defScope (top 21), ["value"], ["value", "is_right"], i_wrong_asks, some (fun l c => qualIn "wrong_asks" (defScope (top 21)) ++ (if l = 50 ∧ c = 4 then ("is_right" : Str) else ""))⟩
def i_is_whole : Ss := (.cons (.ret (.andv (.isi (.var 0) .int) (.notv (.isi (.var 0) .bool))))
 .nil)
def d_is_whole : DD := ⟨"is_whole", defArgs (top 4), defBody (top 4), defScope (top 4), ["value"], ["value"], i_is_whole, none⟩
def i_is_ask : Ss := (.cons (.ifs (.orv (.notv (.call "is_tuple_of" (.cons (.var 0) (.cons (.cst (.int 3)) .nil)) [])) (.orv (.notv (.call "is_name" (.cons (.sub (.var 0) (.cst (.int 0))) .nil) [])) (.notv (.call "is_number" (.cons (.sub (.var 0) (.cst (.int 1))) (.cons (.cst (.int 0)) (.cons (.glob "MOST_SLOT") .nil))) []))))
 (.cons (.ret (.cst (.bool false)))
 .nil)
 .nil)
 (.cons (.ret (.call "is_number" (.cons (.sub (.var 0) (.cst (.int 2))) (.cons (.sub (.var 0) (.cst (.int 1))) (.cons (.glob "MOST_SLOT") .nil))) []))
 .nil))
def d_is_ask : DD := ⟨"is_ask", defArgs (top 20), defBody (top 20), defScope (top 20), ["value"], ["value"], i_is_ask, none⟩
def i_wrong_from_one : Ss := (.cons (.ret (.ife (.andv (.isi (.var 0) .tuple) (.cmp .Eq (.var 0) (.tup .nil))) (.lst false (.cons (.cst .none) .nil)) (.call "wrong_at" (.cons (.var 0) (.cons (.var 1) (.cons (.var 2) .nil))) [])))
 .nil)
def d_wrong_from_one : DD := ⟨"wrong_from_one", defArgs (top 10), defBody (top 10), defScope (top 10), ["value", "most", "is_right"], ["value", "most", "is_right"], i_wrong_from_one, none⟩
def i_is_name : Ss := (.cons (.ret (.andv (.call "is_word" (.cons (.var 0) .nil) []) (.andv (.cmp .LtE (.bi .len false (.cons (.var 0) .nil)) (.glob "MOST_LETTERS")) (.ing true (.var 0) "WORDS"))))
 .nil)
def d_is_name : DD := ⟨"is_name", defArgs (top 7), defBody (top 7), defScope (top 7), ["value"], ["value"], i_is_name, none⟩
def i_wrong_at : Ss := (.cons (.ifs (.notv (.isi (.var 0) .tuple))
 (.cons (.ret (.lst false (.cons (.cst .none) .nil)))
 .nil)
 .nil)
 (.cons (.for_ (.tp (.cons (.nm 3) (.cons (.nm 4) .nil))) (.enum (.var 0))
 (.cons (.ifs (.orv (.andv (.cmp .IsNot (.var 1) (.cst .none)) (.cmp .GtE (.var 3) (.var 1))) (.notv (.callv 2 (.cons (.var 4) (.cons (.slc (.var 0) .no (.var 3)) .nil)))))
 (.cons (.ret (.lst false (.cons (.var 3) .nil)))
 .nil)
 .nil)
 .nil))
 (.cons (.ret (.lst false .nil))
 .nil)))
def d_wrong_at : DD := ⟨"wrong_at", defArgs (top 9), defBody (top 9), defScope (top 9), ["value", "most", "is_right"], ["value", "most", "is_right", "at", "each"], i_wrong_at, none⟩
def i_is_word : Ss := (.cons (.ret (.andv (.isi (.var 0) .str) (.andv (.cmp .NotEq (.var 0) (.cst (.str ""))) (.bi .all false (.cons (.comp false [1] (.cons (.nm 1) (.of (.var 0)) .no .nil) (.cmp .In (.var 1) (.glob "LETTERS"))) .nil)))))
 .nil)
def d_is_word : DD := ⟨"is_word", defArgs (top 6), defBody (top 6), defScope (top 6), ["value"], ["value", "letter"], i_is_word, none⟩
def j_0 : Ss := (.cons (.ret (.tup (.cons (.sub (.sub (.var 1) (.var 0)) (.cst (.int 1))) (.cons (.var 0) .nil)))) .nil)
def c_0 : CD := ⟨lamCI (top 23) 60 43 ["own", "asks"] ["own"] ["asks"], j_0⟩
def j_1 : Ss := (.cons (.ret (.andv (.call "is_ask" (.cons (.var 0) .nil) []) (.cmp .NotIn (.sub (.var 0) (.cst (.int 0))) (.comp false [2] (.cons (.nm 2) (.of (.var 1)) .no .nil) (.sub (.var 2) (.cst (.int 0)))))))
 .nil)
def c_1 : CD := ⟨lamCI (top 21) 50 4 ["each", "before", "other"] ["each", "before"] [], j_1⟩
def L : LD := ⟨[d_law, d__law_right, d__law_urn, d__law_asks, d__law_of, d__law_take, d__law_first, d_first_filling, d_used, d_lateness, d_greatest_late, d_is_filling, d__law_on_time, d_most_on_time, d__law_names, d_check_asked, d_filled, d_lates_of, d_are_slots_for, d_is_filled, d_check_asks, d_check_number, d_first_free, d_is_tuple_of, d_is_number, d_wrong_asks, d_is_whole, d_is_ask, d_wrong_from_one, d_is_name, d_wrong_at, d_is_word],
  [c_0, c_1],
  [("MOST_LETTERS", 8), ("MOST_ASKS", 20), ("MOST_SLOT", 999), ("MOST_RUNWAYS", 4)],
  [("LETTERS", "abcdefghijklmnopqrstuvwxyz")],
  [("WORDS", [.str "add", .str "ahead", .str "all", .str "at", .str "behind", .str "book", .str "by", .str "close", .str "drop", .str "end", .str "ends", .str "flight", .str "from", .str "kinds", .str "land", .str "late", .str "least", .str "move", .str "none", .str "of", .str "open", .str "row", .str "show", .str "time", .str "times", .str "to", .str "with"])],
  ["abs", "all", "bool", "divmod", "enumerate", "int", "isinstance", "len", "max", "min", "range", "repr", "set", "sorted", "str", "sum", "tuple", "zip"]⟩
theorem ok : L.ok = true := by decide +kernel
end K74

set_option Elab.async false
set_option linter.all false
set_option maxRecDepth 100000
set_option maxHeartbeats 0
/-! K74M: the plain part of law k74. -/
namespace K74
open PySem PySem.Spec PyProof.Rows L2 Fx
abbrev lev : Nat := 30
theorem has : P74 L.prog where
  law := by kernel_rfl
  law_right := by kernel_rfl
  law_urn := by kernel_rfl
  law_asks := by kernel_rfl
  law_of := by kernel_rfl
  law_take := by kernel_rfl
  law_first := by kernel_rfl
  first_filling := by kernel_rfl
  used := by kernel_rfl
  lateness := by kernel_rfl
  greatest_late := by kernel_rfl
  is_filling := by kernel_rfl
  law_on_time := by kernel_rfl
  most_on_time := by kernel_rfl
  law_names := by kernel_rfl
  check_asked := by kernel_rfl
  filled := by kernel_rfl
  lates_of := by kernel_rfl
  are_slots_for := by kernel_rfl
  is_filled := by kernel_rfl
  check_asks := by kernel_rfl
  check_number := by kernel_rfl
  first_free := by kernel_rfl
  is_tuple_of := by kernel_rfl
  is_number := by kernel_rfl
  wrong_asks := by kernel_rfl
  is_whole := by kernel_rfl
  is_ask := by kernel_rfl
  wrong_from_one := by kernel_rfl
  is_name := by kernel_rfl
  wrong_at := by kernel_rfl
  is_word := by kernel_rfl
  cl0 := by kernel_rfl
  cl1 := by kernel_rfl
  g_MOST_LETTERS := by kernel_rfl
  g_MOST_ASKS := by kernel_rfl
  g_MOST_SLOT := by kernel_rfl
  g_MOST_RUNWAYS := by kernel_rfl
  g_LETTERS := by kernel_rfl
  g_WORDS := by kernel_rfl
theorem plain : ∀ ns : List Int, ns.length ≤ 63 → (∀ z ∈ ns, Builtin.Int.intBits z ≤ 1048576) → ∃ st', (tbl L.prog lev).fn "law" [.d (.list (ns.map PyData.int))] [] = .ok (.d (.bool true)) st' := fun ns hn _ => by
  obtain ⟨v, s, e, h⟩ := (law_is (k := 17) (s := []) has hn).ex
  subst h
  exact ⟨s, e⟩
end K74

set_option Elab.async false
set_option linter.all false
set_option maxRecDepth 100000
set_option maxHeartbeats 0
/-! K74H: the head of law k74. -/
namespace K74
open PySem PySem.Spec PyProof.Rows L2 Fx
abbrev LW : PySem.W.OpenLaw := PySem.Challenge.rw_runwayrows_k74_whole_first_fillings
abbrev R : PySem.W.OpenRow := PySem.W.OpenLaw.row LW
def ln0 : List Str := ["LETTERS", "MOST_LETTERS", "WORDS", "is_whole", "is_number", "is_word", "is_name", "is_tuple_of", "wrong_at", "wrong_from_one", "RunwayError", "InvalidNumber", "InvalidAsks", "check_number", "MOST_ASKS", "MOST_SLOT", "is_ask", "wrong_asks", "first_free", "filled", "lates_of", "is_filled", "MOST_RUNWAYS", "check_asks", "check_asked"]
def ln1 : List Str := ["are_slots_for", "used", "lateness", "is_filling", "first_filling", "greatest_late", "most_on_time", "_law_urn", "_law_take", "_law_of", "_law_names", "_law_asks", "_law_first", "_law_on_time", "_law_right"]
def loose : List Str := ln0 ++ ln1
abbrev hk : PySem.W.Hook := He.hookX 5 L.fa (L.ds.map DD.d) [] L.tf L.ex
def ob (s : PySem.W.SharedT) : He.AlX := He.obsX 5 L.fa (L.ds.map DD.d) [] L.tf L.ex (HandSHeadRun.getT s)
theorem ob_eq (s : PySem.W.SharedT) : ob s = hk.obs s.abs := He.obsX_eq (HandSHeadRun.getT_eq s)
theorem run (w : World) : HandSHeadRun.RunEq R (PySem.W.view R.prog [47]) hk ob 3000 loose w := by
  intro os
  kernel_rfl
end K74

set_option Elab.async false
set_option maxRecDepth 100000
open PySem PySem.W PySem.Calls PyProof.Rows
set_option maxHeartbeats 0 in
theorem PySem.Challenge.cw_runwayrows_k74_whole_first_fillings_holds : PySem.Challenge.rw_runwayrows_k74_whole_first_fillings.Holds := by
  w_on; o_law
  refine HandSHeadRun.head_any (r := OpenLaw.row PySem.Challenge.rw_runwayrows_k74_whole_first_fillings) (q := view (OpenLaw.row PySem.Challenge.rw_runwayrows_k74_whole_first_fillings).prog [47]) (H := K74.hk) (ob := K74.ob) (M := 3000) (loose := K74.loose) (d := HandSHeadRun.topDef (OpenLaw.row PySem.Challenge.rw_runwayrows_k74_whole_first_fillings).prog 47) (kwd := []) K74.ob_eq
    (by kernel_rfl) (fun s => by kernel_rfl) K74.run (by kernel_rfl) (by kernel_rfl) (by kernel_rfl) (by rfl) (by first | assumption | decide +kernel) (by decide +kernel) ⟨rfl, rfl, rfl, rfl, rfl, by decide +kernel⟩ ?hw ?hc
  case hw => w_witness2
  case hc => exact Fx.fx_walk (x := "script") K74.L K74.ok rfl (by decide) (by kernel_rfl) (by kernel_rfl) (by kernel_rfl) (N := K74.lev) (by decide) K74.plain

